/- A part of the proof: contracts of functions and plain laws (ScF, ScL, ScB, WalkA). -/
import Derived.Test.YtigoiiekebccnaaGreatDoorK12
import Derived.Shelf.Strings.Builder1
import Derived.Shelf.Strings.OnBuilder
import Derived.Shelf.Strings.Trim
import Derived.Shelf.Small.Wraps
import Derived.Shelf.LaysM
import Derived.Shelf.Strconv.Itoa3
import Derived.Shelf.Strings.Prefix
import Derived.Shelf.Strings.Split
import Derived.Shelf.Strings.FieldsFuncAny
import Derived.Test.YtigoiiekebccnaaGreatDoorProg
import Derived.Laws.Strings
import Derived.Laws.IdiomStrings
set_option linter.unusedVariables false
set_option linter.unusedSimpArgs false
set_option linter.unnecessarySimpa false
set_option maxHeartbeats 25600000
set_option maxRecDepth 100000
namespace Go.Proofs.YtigoiiekebccnaaGreatDoor
open Go Go.Lib
open Go.Utf8 renaming decode->ay5
open List renaming mem_cons_self->ay3,mem_cons_of_mem->ay4,getElem?_eq_some_iff->ay6,intercalate->ay7,mem_reverse->ay8,map_append->ay9,drop_drop->azA,replicate->azB
variable{acc:List (Nat×Nat)}{f:Nat}
def aW(r:Nat):Bool:=r==32
def WdB(b:UInt8):Prop:=b.toNat<128/\b.toNat≠32
theorem ajM{s:ByteArray}{pos:Nat}{b:UInt8}(h:s.data.toList[pos]? =some b)(hb:b.toNat<128):pos<s.size/\ay5 s pos=(b.toNat,1):=by
 obtain⟨h1,h2⟩:=ay6.1 h;have hp:pos<s.size:=by simpa using h1
 have e:s[pos]'hp=b:=by rw[<-h2];rfl
 have:=decode_ascii s pos hp (by rw[e];exact hb);rw[e]at this;exact⟨hp,this⟩
section
variable{s:ByteArray}
theorem aeV(f pos:Nat)(st:Option Nat)(acc:List (Nat×Nat)):spansFromP aW s (f+1) pos st acc=if pos<s.size then(if aW (ay5 s pos).1 then(match st with
 |some a=>spansFromP aW s f (pos+(ay5 s pos).2) none (acc++[(a,pos)])
 |none=>spansFromP aW s f (pos+(ay5 s pos).2) none acc)
 else(match st with
  |some a=>spansFromP aW s f (pos+(ay5 s pos).2) (some a) acc
  |none=>spansFromP aW s f (pos+(ay5 s pos).2) (some pos) acc))else(acc,st):=rfl
theorem aeW{pos:Nat}{b:UInt8}(h:s.data.toList[pos]? =some b)(hb:WdB b)(st:Option Nat):spansFromP aW s (f+1) pos st acc=spansFromP aW s f (pos+1) (some (st.getD pos)) acc:=by
 obtain⟨h1,h2⟩:=ajM h hb.1;have hp:aW b.toNat=false:=beq_eq_false_iff_ne.2 hb.2;rw[aeV,if_pos h1,h2,hp]
 cases st<;>rfl
theorem abI{pos:Nat}{b:UInt8}(h:s.data.toList[pos]? =some b)(hb:b.toNat=32)(st:Option Nat):spansFromP aW s (f+1) pos st acc=spansFromP aW s f (pos+1) none (match st with|some a=>acc++[(a,pos)]|none=>acc):=by
 obtain⟨h1,h2⟩:=ajM h (by omega);have hp:aW b.toNat=true:=by rw[hb];rfl
 rw[aeV,if_pos h1,h2,hp]
 cases st<;>rfl
theorem abJ{f a:Nat}{acc:List (Nat×Nat)}:∀(l:List UInt8) (pos:Nat),(∀(i:Nat) b,l[i]? =some b->s.data.toList[pos+i]? =some b)->(∀b∈l,WdB b)->spansFromP aW s (f+l.length) pos (some a) acc=spansFromP aW s f (pos+l.length) (some a) acc
 |[],_,_,_=>rfl
 |b::t,pos,h,hw=>by
  have h0:=h 0 b rfl;rw[show f+(b::t).length=(f+t.length)+1 by simp;omega,aeW (by simpa using h0) (hw b (ay3 ..)) (some a)];show spansFromP aW s (f+t.length) (pos+1) (some a) acc=_;rw[abJ t (pos+1) (fun i c hi=>by have:=h (i+1) c (by simpa using hi);rwa[show pos+(i+1)=pos+1+i by omega]at this) fun c hc=>hw c (ay4 _ hc)];rw[show pos+1+t.length=pos+(b::t).length by simp;omega]
theorem abK{pos:Nat}{w:List UInt8}(h:∀(i:Nat) b,w[i]? =some b->s.data.toList[pos+i]? =some b)(hw:∀b∈w,WdB b)(hne:w≠[]):spansFromP aW s (f+w.length) pos none acc=spansFromP aW s f (pos+w.length) (some pos) acc:=by
 cases w with
 |nil=>exact absurd rfl hne
 |cons b t=>
  have h0:=h 0 b rfl;rw[show f+(b::t).length=(f+t.length)+1 by simp;omega,aeW (by simpa using h0) (hw b (ay3 ..)) none];show spansFromP aW s (f+t.length) (pos+1) (some pos) acc=_;rw[abJ t (pos+1) (fun i c hi=>by have:=h (i+1) c (by simpa using hi);rwa[show pos+(i+1)=pos+1+i by omega]at this) fun c hc=>hw c (ay4 _ hc)];rw[show pos+1+t.length=pos+(b::t).length by simp;omega]
def cutL(s:ByteArray)(x:Nat×Nat):List UInt8:=(s.extract x.1 x.2).data.toList
theorem drop_at{l R:List UInt8}{pos:Nat}(h:l.drop pos=R){i:Nat}{b:UInt8}(hb:R[i]? =some b):l[pos+i]? =some b:=by
 rw[<-h,List.getElem?_drop]at hb;exact hb
theorem ajN:∀(ws:List (List UInt8)) (pos:Nat) (acc:List (Nat×Nat)),ws≠[]->(∀w∈ws,w≠[]/\∀b∈w,WdB b)->s.data.toList.drop pos=[32].intercalate ws->
 (closeSpans s (spansFromP aW s ([32].intercalate ws).length pos none acc)).map (cutL s)=acc.map (cutL s)++ws
 |[],_,_,h,_,_=>absurd rfl h
 |[w],pos,acc,_,hw,hd=>by
  obtain⟨h1,h2⟩:=hw w (ay3 ..);have e:[(32:UInt8)].intercalate [w]=w:=by simp[ay7]
  rw[e]at hd|-;have hs:=abK (s:=s) (f:=0) (pos:=pos) (acc:=acc) (fun i b hi=>drop_at hd hi) h2 h1;rw[Nat.zero_add]at hs;rw[hs];show(closeSpans s (acc,some pos)).map (cutL s)=_;unfold closeSpans;rw[ay9]
  congr 1
  show[cutL s (pos,s.size)]=[w];unfold cutL;rw[extract_data,<-hd]
  congr 1
  exact List.take_of_length_le (by simp)
 |w::m::ws,pos,acc,_,hw,hd=>by
  obtain⟨h1,h2⟩:=hw w (ay3 ..);have e:[(32:UInt8)].intercalate (w::m::ws)=w++32::[32].intercalate (m::ws):=by simp[ay7]
  rw[e]at hd|-;obtain⟨R,hR⟩:∃R,[(32:UInt8)].intercalate (m::ws)=R:=⟨_,rfl⟩;have ih:=ajN (m::ws) (pos+w.length+1) (acc++[(pos,pos+w.length)]) (by simp) (fun x hx=>hw x (ay4 _ hx)) (by
   rw[Nat.add_assoc,<-azA,hd,List.drop_append];simp)
  rw[hR]at hd ih|-;have hl:(w++32::R).length=(R.length+1)+w.length:=by simp;omega
  rw[hl,abK (fun i b hi=>drop_at hd (by rw[List.getElem?_append_left (ay6.1 hi).1];exact hi)) h2 h1];have hb:s.data.toList[pos+w.length]? =some 32:=drop_at hd (by rw[List.getElem?_append_right (Nat.le_refl _),Nat.sub_self];rfl);rw[abI hb rfl (some pos)];rw[show(match some pos with|some a=>acc++[(a,pos+w.length)]|none=>acc)=acc++[(pos,pos+w.length)] from rfl,ih];rw[ay9,List.append_assoc]
  congr 1
  show[cutL s (pos,pos+w.length)]++_=_;have hc:cutL s (pos,pos+w.length)=w:=by
   unfold cutL;rw[extract_data,hd,Nat.add_sub_cancel_left];simp
  rw[hc];rfl
theorem aeX{R:List UInt8}:∀(k pos:Nat),s.data.toList.drop pos=azB k 32++R->spansFromP aW s (k+R.length) pos none []=spansFromP aW s R.length (pos+k) none []
 |0,pos,_=>by rw[Nat.zero_add];rfl
 |k+1,pos,h=>by
  have hb:s.data.toList[pos+0]? =some 32:=drop_at h (i:=0) rfl;rw[Nat.add_zero]at hb;rw[show k+1+R.length=(k+R.length)+1 by omega,abI hb rfl none];show spansFromP aW s (k+R.length) (pos+1) none []=_;rw[aeX k (pos+1) (by rw[<-azA,h];rfl),show pos+1+k=pos+(k+1) by omega]
end
theorem fields_of{s:ByteArray}{ws:List (List UInt8)}{k:Nat}(hs:s.data.toList=azB k 32++[32].intercalate ws)(hne:ws≠[])(hw:∀w∈ws,w≠[]/\∀b∈w,WdB b):goFieldsP aW s=ws.map fun l=>⟨l.toArray⟩:=by
 have hz:s.size=k+([32].intercalate ws).length:=by
  have:s.size=s.data.toList.length:=by simp
  rw[this,hs];simp
 have h1:spansOfP aW s=closeSpans s (spansFromP aW s ([32].intercalate ws).length k none []):=by
  unfold spansOfP;rw[hz,aeX k 0 (by simpa using hs),Nat.zero_add]
 have h2:=ajN ws k [] hne hw (s:=s) (by rw[hs];simp);rw[<-h1]at h2;unfold goFieldsP;have h3:(spansOfP aW s).map (fun x=>s.extract x.1 x.2)=((spansOfP aW s).map (cutL s)).map fun l=>(⟨l.toArray⟩:ByteArray):=by
  rw[List.map_map];refine List.map_congr_left fun x _=> ?_;show _=(⟨(s.extract x.1 x.2).data.toList.toArray⟩:ByteArray)
  cases s.extract x.1 x.2;simp
 rw[h3,h2];rfl
theorem qW{p:UInt8->Bool}:∀{l:List UInt8},l.dropWhile p=[]->∀x∈l,p x=true
 |[],_,x,hx=>by cases hx
 |a::l,h,x,hx=>by
  unfold List.dropWhile at h;rcases ha:p a with _|_
  . rw[ha]at h;cases h
  . rw[ha]at h
    rcases List.mem_cons.1 hx with rfl|hx
    . exact ha
    . exact qW h x hx
theorem agF{l:List UInt8}{b:UInt8}(h:b∈l)(hb:b≠32):trimB l 32≠[]:=by
 intro e;unfold trimB trimLeftB trimRightB at e;have h1:∀x∈(l.reverse.dropWhile (· ==32)).reverse,x=32:=by
  intro x hx;have:=qW e x hx;simpa using this
 have h2:∀x∈l.reverse.dropWhile (· ==32),x=32:=fun x hx=>h1 x (ay8.2 hx);rcases h3:l.reverse.dropWhile (· ==32)with _|⟨y,t⟩
 . have:=qW h3 b (ay8.2 h)
   exact hb (by simpa using this)
 . have hy:=List.head?_dropWhile_not (· ==(32:UInt8)) l.reverse
   rw[h3]at hy;have:=h2 y (by rw[h3];exact ay3 ..);simp[this]at hy
end Go.Proofs.YtigoiiekebccnaaGreatDoor
namespace Go.Proofs
open Go.Shelf
open Go.Lib renaming goFieldsP->azC,countB->azD,IsBuilder->azE,hasPrefix->azF
def Tryz.lays170_ren:Go.Shelf.Ren:=⟨fun|170=>23|n=>n,fun|70=>45|3=>3|0=>0|72=>48|37=>46|5=>5|n=>n,fun|n=>n⟩
theorem Tryz.lays170:Go.Proofs.Lays.n170 Tryz.prog Tryz.lays170_ren:={
 mixed:=by kernel_rfl
 f170:=Tryz.func23.trans (congrArg some (by kernel_rfl))
 t0:=Tryz.underlying0
 a0:=Tryz.isAgg0
 z0:=Tryz.sizeOf0
 v0:=Tryz.zeroValue0
 t3:=Tryz.underlying3
 a3:=Tryz.isAgg3
 z3:=Tryz.sizeOf3
 v3:=Tryz.zeroValue3
 t37:=Tryz.underlying46
 a37:=Tryz.isAgg46
 z37:=Tryz.sizeOf46
 v37:=Tryz.zeroValue46
 t70:=Tryz.underlying45
 a70:=Tryz.isAgg45
 z70:=Tryz.sizeOf45
 v70:=Tryz.zeroValue45
 t72:=Tryz.underlying48
 a72:=Tryz.isAgg48
 z72:=Tryz.sizeOf48
 v72:=Tryz.zeroValue48}
open Go.RowKit in
theorem Tryz.Builder_Len (B b:Nat)(bs:List Value)(w:World)(h:azE 48 5 B b bs w):
 Calls Tryz.prog 23 #[.pointer (some ⟨b,0,none⟩)] w fun e w'=>e=.returned (.int .i64 bs.length)/\w'=w:=Any.Builder_Len Tryz.lays170 B b bs w h
def Tryz.lays169_ren:Go.Shelf.Ren:=⟨fun|169=>24|n=>n,fun|70=>45|9=>9|0=>0|72=>48|37=>46|127=>75|3=>3|5=>5|n=>n,fun|n=>n⟩
theorem Tryz.lays169:Go.Proofs.Lays.n169 Tryz.prog Tryz.lays169_ren:={
 mixed:=by kernel_rfl
 f169:=Tryz.func24.trans (congrArg some (by kernel_rfl))
 t0:=Tryz.underlying0
 a0:=Tryz.isAgg0
 z0:=Tryz.sizeOf0
 v0:=Tryz.zeroValue0
 t3:=Tryz.underlying3
 a3:=Tryz.isAgg3
 z3:=Tryz.sizeOf3
 v3:=Tryz.zeroValue3
 t9:=Tryz.underlying9
 a9:=Tryz.isAgg9
 z9:=Tryz.sizeOf9
 v9:=Tryz.zeroValue9
 t37:=Tryz.underlying46
 a37:=Tryz.isAgg46
 z37:=Tryz.sizeOf46
 v37:=Tryz.zeroValue46
 t70:=Tryz.underlying45
 a70:=Tryz.isAgg45
 z70:=Tryz.sizeOf45
 v70:=Tryz.zeroValue45
 t72:=Tryz.underlying48
 a72:=Tryz.isAgg48
 z72:=Tryz.sizeOf48
 v72:=Tryz.zeroValue48
 t127:=Tryz.underlying75
 a127:=Tryz.isAgg75
 z127:=Tryz.sizeOf75
 v127:=Tryz.zeroValue75}
theorem Tryz.Builder_Extra_169:Builder.Extra Tryz.prog Tryz.lays169_ren:={
 sizeBuilder:=by kernel_rfl
 liesBuilder:=by kernel_rfl
 t5:=Tryz.underlying5
 a5:=Tryz.isAgg5
 z5:=Tryz.sizeOf5
 v5:=Tryz.zeroValue5
 infoByte:=by kernel_rfl
 cellsByte:=by kernel_rfl
 sizeByte:=by kernel_rfl
 neB5:=by decide}
open Go.RowKit in
theorem Tryz.Builder_String_any (B b:Nat)(l:List UInt8)(w:World)(h:azE 48 5 B b (Lib.byteCells l) w)(hBw:B<=w.heap.size):
 Calls Tryz.prog 24 #[.pointer (some ⟨b,0,none⟩)] w fun e w'=>e=.returned (.string ⟨l.toArray⟩)/\Below B w w':=Any.Builder_String_any Tryz.lays169 Tryz.Builder_Extra_169 B b l w h hBw
def Tryz.lays156_ren:Go.Shelf.Ren:=⟨fun|156=>43|165=>75|166=>20|169=>24|240=>42|241=>108|276=>74|277=>159|n=>n,fun|31=>60|9=>9|3=>3|4=>4|0=>0|20=>20|72=>48|76=>49|70=>45|37=>46|75=>30|127=>75|164=>115|5=>5|80=>54|n=>n,fun|n=>n⟩
theorem Tryz.lays156:Go.Proofs.Lays.n156 Tryz.prog Tryz.lays156_ren:={
 mixed:=by kernel_rfl
 f156:=Tryz.func43.trans (congrArg some (by kernel_rfl))
 f165:=Tryz.func75.trans (congrArg some (by kernel_rfl))
 f166:=Tryz.func20.trans (congrArg some (by kernel_rfl))
 f169:=Tryz.func24.trans (congrArg some (by kernel_rfl))
 f240:=Tryz.func42.trans (congrArg some (by kernel_rfl))
 f241:=Tryz.func108.trans (congrArg some (by kernel_rfl))
 f276:=Tryz.func74.trans (congrArg some (by kernel_rfl))
 f277:=Tryz.func159.trans (congrArg some (by kernel_rfl))
 t0:=Tryz.underlying0
 a0:=Tryz.isAgg0
 z0:=Tryz.sizeOf0
 v0:=Tryz.zeroValue0
 t3:=Tryz.underlying3
 a3:=Tryz.isAgg3
 z3:=Tryz.sizeOf3
 v3:=Tryz.zeroValue3
 t4:=Tryz.underlying4
 a4:=Tryz.isAgg4
 z4:=Tryz.sizeOf4
 v4:=Tryz.zeroValue4
 t9:=Tryz.underlying9
 a9:=Tryz.isAgg9
 z9:=Tryz.sizeOf9
 v9:=Tryz.zeroValue9
 t20:=Tryz.underlying20
 a20:=Tryz.isAgg20
 z20:=Tryz.sizeOf20
 v20:=Tryz.zeroValue20
 t31:=Tryz.underlying60
 a31:=Tryz.isAgg60
 z31:=Tryz.sizeOf60
 v31:=Tryz.zeroValue60
 t37:=Tryz.underlying46
 a37:=Tryz.isAgg46
 z37:=Tryz.sizeOf46
 v37:=Tryz.zeroValue46
 t70:=Tryz.underlying45
 a70:=Tryz.isAgg45
 z70:=Tryz.sizeOf45
 v70:=Tryz.zeroValue45
 t72:=Tryz.underlying48
 a72:=Tryz.isAgg48
 z72:=Tryz.sizeOf48
 v72:=Tryz.zeroValue48
 t75:=Tryz.underlying30
 a75:=Tryz.isAgg30
 z75:=Tryz.sizeOf30
 v75:=Tryz.zeroValue30
 t76:=Tryz.underlying49
 a76:=Tryz.isAgg49
 z76:=Tryz.sizeOf49
 v76:=Tryz.zeroValue49
 t127:=Tryz.underlying75
 a127:=Tryz.isAgg75
 z127:=Tryz.sizeOf75
 v127:=Tryz.zeroValue75
 t164:=Tryz.underlying115
 a164:=Tryz.isAgg115
 z164:=Tryz.sizeOf115
 v164:=Tryz.zeroValue115}
theorem Tryz.Builder_Extra_156:Builder.Extra Tryz.prog Tryz.lays156_ren:={
 sizeBuilder:=by kernel_rfl
 liesBuilder:=by kernel_rfl
 t5:=Tryz.underlying5
 a5:=Tryz.isAgg5
 z5:=Tryz.sizeOf5
 v5:=Tryz.zeroValue5
 infoByte:=by kernel_rfl
 cellsByte:=by kernel_rfl
 sizeByte:=by kernel_rfl
 neB5:=by decide}
open Go.RowKit in
theorem Tryz.strings_Join (bk o c:Nat)(xs:List ByteArray)(sep:ByteArray)(w:World)(hcells:∀(j:Nat) x,xs[j]? =some x->w.cell? ⟨bk,o+j,none⟩=some (.string x))(hbk:bk<w.heap.size)(hN:xs.length<=140737488355328)(hcap:xs.length<=c)(hlen:(Lib.join (xs.map (·.data.toList)) sep.data.toList).length<=140737488355328):
 Calls Tryz.prog 43 #[.slice (some ⟨bk,o,none⟩) xs.length c,.string sep] w fun e w'=>e=.returned (.string ⟨(Lib.join (xs.map (·.data.toList)) sep.data.toList).toArray⟩)/\Below w.heap.size w w':=Any.strings_Join Tryz.lays156 Tryz.Builder_Extra_156 bk o c xs sep w hcells hbk hN hcap hlen
def Tryz.lays160_ren:Go.Shelf.Ren:=⟨fun|160=>32|232=>51|231=>50|227=>52|234=>54|233=>53|236=>56|235=>55|228=>79|271=>82|151=>81|197=>80|120=>114|152=>113|260=>112|137=>164|119=>165|224=>162|225=>161|217=>160|266=>222|n=>n,fun|9=>9|4=>4|3=>3|5=>5|117=>86|116=>85|0=>0|124=>89|21=>21|105=>130|46=>246|119=>247|139=>250|138=>249|n=>n,fun|3=>2|4=>3|n=>n⟩
theorem Tryz.lays160:Go.Proofs.Lays.n160 Tryz.prog Tryz.lays160_ren:={
 mixed:=by kernel_rfl
 f119:=Tryz.func165.trans (congrArg some (by kernel_rfl))
 f120:=Tryz.func114.trans (congrArg some (by kernel_rfl))
 f137:=Tryz.func164.trans (congrArg some (by kernel_rfl))
 f151:=Tryz.func81.trans (congrArg some (by kernel_rfl))
 f152:=Tryz.func113.trans (congrArg some (by kernel_rfl))
 f160:=Tryz.func32.trans (congrArg some (by kernel_rfl))
 f197:=Tryz.func80.trans (congrArg some (by kernel_rfl))
 f217:=Tryz.func160.trans (congrArg some (by kernel_rfl))
 f224:=Tryz.func162.trans (congrArg some (by kernel_rfl))
 f225:=Tryz.func161.trans (congrArg some (by kernel_rfl))
 f227:=Tryz.func52.trans (congrArg some (by kernel_rfl))
 f228:=Tryz.func79.trans (congrArg some (by kernel_rfl))
 f231:=Tryz.func50.trans (congrArg some (by kernel_rfl))
 f232:=Tryz.func51.trans (congrArg some (by kernel_rfl))
 f233:=Tryz.func53.trans (congrArg some (by kernel_rfl))
 f234:=Tryz.func54.trans (congrArg some (by kernel_rfl))
 f235:=Tryz.func55.trans (congrArg some (by kernel_rfl))
 f236:=Tryz.func56.trans (congrArg some (by kernel_rfl))
 f260:=Tryz.func112.trans (congrArg some (by kernel_rfl))
 f266:=Tryz.func222.trans (congrArg some (by kernel_rfl))
 f271:=Tryz.func82.trans (congrArg some (by kernel_rfl))
 t0:=Tryz.underlying0
 a0:=Tryz.isAgg0
 z0:=Tryz.sizeOf0
 v0:=Tryz.zeroValue0
 t3:=Tryz.underlying3
 a3:=Tryz.isAgg3
 z3:=Tryz.sizeOf3
 v3:=Tryz.zeroValue3
 t4:=Tryz.underlying4
 a4:=Tryz.isAgg4
 z4:=Tryz.sizeOf4
 v4:=Tryz.zeroValue4
 t5:=Tryz.underlying5
 a5:=Tryz.isAgg5
 z5:=Tryz.sizeOf5
 v5:=Tryz.zeroValue5
 t9:=Tryz.underlying9
 a9:=Tryz.isAgg9
 z9:=Tryz.sizeOf9
 v9:=Tryz.zeroValue9
 t21:=Tryz.underlying21
 a21:=Tryz.isAgg21
 z21:=Tryz.sizeOf21
 v21:=Tryz.zeroValue21
 t46:=Tryz.underlying246
 a46:=Tryz.isAgg246
 z46:=Tryz.sizeOf246
 v46:=Tryz.zeroValue246
 t105:=Tryz.underlying130
 a105:=Tryz.isAgg130
 z105:=Tryz.sizeOf130
 v105:=Tryz.zeroValue130
 t116:=Tryz.underlying85
 a116:=Tryz.isAgg85
 z116:=Tryz.sizeOf85
 t117:=Tryz.underlying86
 a117:=Tryz.isAgg86
 z117:=Tryz.sizeOf86
 v117:=Tryz.zeroValue86
 t119:=Tryz.underlying247
 a119:=Tryz.isAgg247
 z119:=Tryz.sizeOf247
 t124:=Tryz.underlying89
 a124:=Tryz.isAgg89
 z124:=Tryz.sizeOf89
 v124:=Tryz.zeroValue89
 t138:=Tryz.underlying249
 a138:=Tryz.isAgg249
 z138:=Tryz.sizeOf249
 v138:=Tryz.zeroValue249
 t139:=Tryz.underlying250
 a139:=Tryz.isAgg250
 z139:=Tryz.sizeOf250
 v139:=Tryz.zeroValue250
 g3:=by kernel_rfl
 g4:=by kernel_rfl}
open Go.RowKit in
theorem Tryz.strings_Trim_one (s:ByteArray)(c:UInt8)(hc:c.toNat<128)(w:World)(hs:s.size<=9223372036854775807):
 Calls Tryz.prog 32 #[.string s,.string ⟨#[c]⟩] w fun e w'=>e=.returned (.string ⟨(Lib.trimB s.data.toList c).toArray⟩)/\(w'=w\/w'=w.drew):=Any.strings_Trim_one Tryz.lays160 s c hc w hs
def Tryz.lays103_ren:Go.Shelf.Ren:=⟨fun|103=>83|210=>115|206=>49|n=>n,fun|9=>9|4=>4|24=>136|3=>3|n=>n,fun|n=>n⟩
theorem Tryz.lays103:Go.Proofs.Lays.n103 Tryz.prog Tryz.lays103_ren:={
 mixed:=by kernel_rfl
 f103:=Tryz.func83.trans (congrArg some (by kernel_rfl))
 f206:=Tryz.func49.trans (congrArg some (by kernel_rfl))
 f210:=Tryz.func115.trans (congrArg some (by kernel_rfl))
 t3:=Tryz.underlying3
 a3:=Tryz.isAgg3
 z3:=Tryz.sizeOf3
 v3:=Tryz.zeroValue3
 t4:=Tryz.underlying4
 a4:=Tryz.isAgg4
 z4:=Tryz.sizeOf4
 v4:=Tryz.zeroValue4
 t9:=Tryz.underlying9
 a9:=Tryz.isAgg9
 z9:=Tryz.sizeOf9
 v9:=Tryz.zeroValue9
 t24:=Tryz.underlying136
 a24:=Tryz.isAgg136
 z24:=Tryz.sizeOf136
 v24:=Tryz.zeroValue136}
open Go.RowKit in
theorem Tryz.strings_CutPrefix (s p:ByteArray)(w:World):
 Calls Tryz.prog 83 #[.string s,.string p] w fun e w'=>e=.returned (.tuple #[.string ⟨(Lib.trimPrefix s.data.toList p.data.toList).toArray⟩,.bool (azF s.data.toList p.data.toList)])/\w'=w:=Any.strings_CutPrefix Tryz.lays103 s p w
def Tryz.laysM171_ren:Go.Shelf.Ren:=⟨fun|171=>38|243=>63|246=>89|283=>118|284=>119|285=>120|286=>121|129=>167|317=>166|318=>168|319=>169|320=>170|337=>224|338=>225|n=>n,fun|3=>3|9=>9|2=>2|4=>4|171=>197|0=>0|53=>198|37=>46|5=>5|173=>201|212=>252|51=>253|20=>20|213=>254|46=>246|232=>375|233=>376|n=>n,fun|17=>4|18=>5|19=>6|n=>n⟩
theorem Tryz.laysM171:Go.Proofs.LaysM.n171 Tryz.prog Tryz.laysM171_ren:={
 mixed:=by kernel_rfl
 f129:=Tryz.func167.trans (congrArg some (by kernel_rfl))
 f171:=Tryz.func38.trans (congrArg some (by kernel_rfl))
 f243:=Tryz.func63.trans (congrArg some (by kernel_rfl))
 f246:=Tryz.func89.trans (congrArg some (by kernel_rfl))
 f283:=Tryz.func118.trans (congrArg some (by kernel_rfl))
 f284:=Tryz.func119.trans (congrArg some (by kernel_rfl))
 f285:=Tryz.func120.trans (congrArg some (by kernel_rfl))
 f286:=Tryz.func121.trans (congrArg some (by kernel_rfl))
 f317:=Tryz.func166.trans (congrArg some (by kernel_rfl))
 f318:=Tryz.func168.trans (congrArg some (by kernel_rfl))
 f319:=Tryz.func169.trans (congrArg some (by kernel_rfl))
 f320:=Tryz.func170.trans (congrArg some (by kernel_rfl))
 f337:=Tryz.func224.trans (congrArg some (by kernel_rfl))
 f338:=Tryz.func225.trans (congrArg some (by kernel_rfl))
 t0:=Tryz.underlying0
 a0:=Tryz.isAgg0
 z0:=Tryz.sizeOf0
 v0:=Tryz.zeroValue0
 t2:=Tryz.underlying2
 a2:=Tryz.isAgg2
 z2:=Tryz.sizeOf2
 v2:=Tryz.zeroValue2
 t3:=Tryz.underlying3
 a3:=Tryz.isAgg3
 z3:=Tryz.sizeOf3
 v3:=Tryz.zeroValue3
 t4:=Tryz.underlying4
 a4:=Tryz.isAgg4
 z4:=Tryz.sizeOf4
 v4:=Tryz.zeroValue4
 t5:=Tryz.underlying5
 a5:=Tryz.isAgg5
 z5:=Tryz.sizeOf5
 v5:=Tryz.zeroValue5
 t9:=Tryz.underlying9
 a9:=Tryz.isAgg9
 z9:=Tryz.sizeOf9
 v9:=Tryz.zeroValue9
 t20:=Tryz.underlying20
 a20:=Tryz.isAgg20
 z20:=Tryz.sizeOf20
 v20:=Tryz.zeroValue20
 t37:=Tryz.underlying46
 a37:=Tryz.isAgg46
 z37:=Tryz.sizeOf46
 v37:=Tryz.zeroValue46
 t46:=Tryz.underlying246
 a46:=Tryz.isAgg246
 z46:=Tryz.sizeOf246
 v46:=Tryz.zeroValue246
 t51:=Tryz.underlying253
 a51:=Tryz.isAgg253
 z51:=Tryz.sizeOf253
 v51:=Tryz.zeroValue253
 t53:=Tryz.underlying198
 a53:=Tryz.isAgg198
 z53:=Tryz.sizeOf198
 v53:=Tryz.zeroValue198
 t171:=Tryz.underlying197
 a171:=Tryz.isAgg197
 z171:=Tryz.sizeOf197
 v171:=Tryz.zeroValue197
 t173:=Tryz.underlying201
 a173:=Tryz.isAgg201
 z173:=Tryz.sizeOf201
 v173:=Tryz.zeroValue201
 t212:=Tryz.underlying252
 a212:=Tryz.isAgg252
 z212:=Tryz.sizeOf252
 v212:=Tryz.zeroValue252
 t213:=Tryz.underlying254
 a213:=Tryz.isAgg254
 z213:=Tryz.sizeOf254
 t232:=Tryz.underlying375
 a232:=Tryz.isAgg375
 z232:=Tryz.sizeOf375
 v232:=Tryz.zeroValue375
 t233:=Tryz.underlying376
 a233:=Tryz.isAgg376
 z233:=Tryz.sizeOf376
 v233:=Tryz.zeroValue376
 g17:=by kernel_rfl
 g18:=by kernel_rfl
 g19:=by kernel_rfl
 i0:=by kernel_rfl
 i2:=by kernel_rfl
 i3:=by kernel_rfl
 i4:=by kernel_rfl
 i5:=by kernel_rfl
 i9:=by kernel_rfl
 i20:=by kernel_rfl
 i37:=by kernel_rfl
 i46:=by kernel_rfl
 i51:=by kernel_rfl
 i53:=by kernel_rfl
 i171:=by kernel_rfl
 i173:=by kernel_rfl
 i212:=by kernel_rfl
 i232:=by kernel_rfl
 i233:=by kernel_rfl
 m17:=by kernel_rfl
 m18:=by kernel_rfl
 m19:=by kernel_rfl}
open Go.RowKit Go.Sort Go.Lib in
theorem Tryz.strconv_Itoa (n : Int) (h0 : -9223372036854775808 ≤ n) (h1 : n ≤ 9223372036854775807) (w : World) (htab : Lib.TabIs Tryz.prog w "internal/strconv.uint64pow10" .u64 Lib.pow10Tab) :
 Calls Tryz.prog 38 #[.int .i64 n] w fun e w'=>e=.returned (.string ⟨(Lib.itoa n).toArray⟩)/\∃k os,w'=grow (w.drewN k) os:=Any.strconv_Itoa Tryz.laysM171 n h0 h1 w htab
def Tryz.lays99_ren:Go.Shelf.Ren:=⟨fun|99=>31|206=>49|n=>n,fun|9=>9|4=>4|3=>3|n=>n,fun|n=>n⟩
theorem Tryz.lays99:Go.Proofs.Lays.n99 Tryz.prog Tryz.lays99_ren:={
 mixed:=by kernel_rfl
 f99:=Tryz.func31.trans (congrArg some (by kernel_rfl))
 f206:=Tryz.func49.trans (congrArg some (by kernel_rfl))
 t3:=Tryz.underlying3
 a3:=Tryz.isAgg3
 z3:=Tryz.sizeOf3
 v3:=Tryz.zeroValue3
 t4:=Tryz.underlying4
 a4:=Tryz.isAgg4
 z4:=Tryz.sizeOf4
 v4:=Tryz.zeroValue4
 t9:=Tryz.underlying9
 a9:=Tryz.isAgg9
 z9:=Tryz.sizeOf9
 v9:=Tryz.zeroValue9}
open Go.RowKit Go.Lib in
theorem Tryz.strings_HasPrefix (s p:ByteArray)(w:World):
 Calls Tryz.prog 31 #[.string s,.string p] w fun e w'=>e=.returned (.bool (azF s.data.toList p.data.toList))/\w'=w:=Any.strings_HasPrefix Tryz.lays99 s p w
def Tryz.lays146_ren:Go.Shelf.Ren:=⟨fun|146=>30|221=>48|268=>76|138=>77|143=>78|195=>109|197=>80|218=>110|219=>111|260=>112|217=>160|225=>161|224=>162|267=>163|266=>222|314=>223|n=>n,fun|9=>9|31=>60|3=>3|4=>4|0=>0|105=>130|21=>21|5=>5|46=>246|119=>247|139=>250|138=>249|146=>313|51=>253|n=>n,fun|1=>1|3=>2|4=>3|n=>n⟩
theorem Tryz.lays146:Go.Proofs.Lays.n146 Tryz.prog Tryz.lays146_ren:={
 mixed:=by kernel_rfl
 f138:=Tryz.func77.trans (congrArg some (by kernel_rfl))
 f143:=Tryz.func78.trans (congrArg some (by kernel_rfl))
 f146:=Tryz.func30.trans (congrArg some (by kernel_rfl))
 f195:=Tryz.func109.trans (congrArg some (by kernel_rfl))
 f197:=Tryz.func80.trans (congrArg some (by kernel_rfl))
 f217:=Tryz.func160.trans (congrArg some (by kernel_rfl))
 f218:=Tryz.func110.trans (congrArg some (by kernel_rfl))
 f219:=Tryz.func111.trans (congrArg some (by kernel_rfl))
 f221:=Tryz.func48.trans (congrArg some (by kernel_rfl))
 f224:=Tryz.func162.trans (congrArg some (by kernel_rfl))
 f225:=Tryz.func161.trans (congrArg some (by kernel_rfl))
 f260:=Tryz.func112.trans (congrArg some (by kernel_rfl))
 f266:=Tryz.func222.trans (congrArg some (by kernel_rfl))
 f267:=Tryz.func163.trans (congrArg some (by kernel_rfl))
 f268:=Tryz.func76.trans (congrArg some (by kernel_rfl))
 f314:=Tryz.func223.trans (congrArg some (by kernel_rfl))
 t0:=Tryz.underlying0
 a0:=Tryz.isAgg0
 z0:=Tryz.sizeOf0
 v0:=Tryz.zeroValue0
 t3:=Tryz.underlying3
 a3:=Tryz.isAgg3
 z3:=Tryz.sizeOf3
 v3:=Tryz.zeroValue3
 t4:=Tryz.underlying4
 a4:=Tryz.isAgg4
 z4:=Tryz.sizeOf4
 v4:=Tryz.zeroValue4
 t5:=Tryz.underlying5
 a5:=Tryz.isAgg5
 z5:=Tryz.sizeOf5
 v5:=Tryz.zeroValue5
 t9:=Tryz.underlying9
 a9:=Tryz.isAgg9
 z9:=Tryz.sizeOf9
 v9:=Tryz.zeroValue9
 t21:=Tryz.underlying21
 a21:=Tryz.isAgg21
 z21:=Tryz.sizeOf21
 v21:=Tryz.zeroValue21
 t31:=Tryz.underlying60
 a31:=Tryz.isAgg60
 z31:=Tryz.sizeOf60
 v31:=Tryz.zeroValue60
 t46:=Tryz.underlying246
 a46:=Tryz.isAgg246
 z46:=Tryz.sizeOf246
 v46:=Tryz.zeroValue246
 t51:=Tryz.underlying253
 a51:=Tryz.isAgg253
 z51:=Tryz.sizeOf253
 v51:=Tryz.zeroValue253
 t105:=Tryz.underlying130
 a105:=Tryz.isAgg130
 z105:=Tryz.sizeOf130
 v105:=Tryz.zeroValue130
 t119:=Tryz.underlying247
 a119:=Tryz.isAgg247
 z119:=Tryz.sizeOf247
 t138:=Tryz.underlying249
 a138:=Tryz.isAgg249
 z138:=Tryz.sizeOf249
 v138:=Tryz.zeroValue249
 t139:=Tryz.underlying250
 a139:=Tryz.isAgg250
 z139:=Tryz.sizeOf250
 v139:=Tryz.zeroValue250
 t146:=Tryz.underlying313
 a146:=Tryz.isAgg313
 z146:=Tryz.sizeOf313
 v146:=Tryz.zeroValue313
 g1:=by kernel_rfl
 g3:=by kernel_rfl
 g4:=by kernel_rfl}
open Go.RowKit Go.Lib in
theorem Tryz.strings_Split (s sep:ByteArray)(m:Int)(w:World)(hs:s.size<4294967281)(hm:w.cell? ⟨1,0,none⟩=some (.int .i64 m))(h1:1<=sep.size):
 Calls Tryz.prog 30 #[.string s,.string sep] w fun e w'=>
  e=.returned (.slice (some ⟨w.heap.size,0,none⟩) (azD s sep+1) (azD s sep+1))/\w'=w.alloc (.cells ((Lib.splitB sep 0 (azD s sep) s).map Value.string).toArray 9):=Any.strings_Split Tryz.lays146 (by kernel_rfl) s sep m w hs hm h1
def Tryz.lays229_ren:Go.Shelf.Ren:=⟨fun|229=>57|n=>n,fun|9=>9|40=>91|31=>60|152=>133|3=>3|0=>0|4=>4|21=>21|154=>135|n=>n,fun|n=>n⟩
theorem Tryz.lays229:Go.Proofs.Lays.n229 Tryz.prog Tryz.lays229_ren:={
 mixed:=by kernel_rfl
 f229:=Tryz.func57.trans (congrArg some (by kernel_rfl))
 t0:=Tryz.underlying0
 a0:=Tryz.isAgg0
 z0:=Tryz.sizeOf0
 v0:=Tryz.zeroValue0
 t3:=Tryz.underlying3
 a3:=Tryz.isAgg3
 z3:=Tryz.sizeOf3
 v3:=Tryz.zeroValue3
 t4:=Tryz.underlying4
 a4:=Tryz.isAgg4
 z4:=Tryz.sizeOf4
 v4:=Tryz.zeroValue4
 t9:=Tryz.underlying9
 a9:=Tryz.isAgg9
 z9:=Tryz.sizeOf9
 v9:=Tryz.zeroValue9
 t21:=Tryz.underlying21
 a21:=Tryz.isAgg21
 z21:=Tryz.sizeOf21
 v21:=Tryz.zeroValue21
 t31:=Tryz.underlying60
 a31:=Tryz.isAgg60
 z31:=Tryz.sizeOf60
 v31:=Tryz.zeroValue60
 t40:=Tryz.underlying91
 a40:=Tryz.isAgg91
 z40:=Tryz.sizeOf91
 v40:=Tryz.zeroValue91
 t152:=Tryz.underlying133
 a152:=Tryz.isAgg133
 z152:=Tryz.sizeOf133
 v152:=Tryz.zeroValue133
 t154:=Tryz.underlying135
 a154:=Tryz.isAgg135
 z154:=Tryz.sizeOf135
 v154:=Tryz.zeroValue135}
open Go.RowKit Go.Lib in
theorem Tryz.strings_FieldsFunc_runes (g:Nat)(lb:Array Value)(eg:∀args w,(callFunc g args).run Tryz.prog w=.ok (.enter g args) w)(p:Nat->Bool)(s:ByteArray)(w:World)(hs:s.size<=4294967296)(hp:PredAtRunes Tryz.prog g lb p w):
 Calls Tryz.prog 57 #[.string s,.func (.func g) #[] lb] w fun e w'=>∃A,e=.returned (.slice (some ⟨A,0,none⟩) (azC p s).length (azC p s).length)/\w.heap.size<=A/\
  w'.ownsRow w.heap.size 9 1 (.slice (some ⟨A,0,none⟩) (azC p s).length (azC p s).length) (azC p s).length ((azC p s).map Value.string)/\Below w.heap.size w w':=Any.strings_FieldsFunc_runes Tryz.lays229 g lb eg p s w hs hp (by kernel_rfl) (by kernel_rfl)
end Go.Proofs
namespace Go.Proofs.YtigoiiekebccnaaGreatDoor
section
open Go.RowKit
open Decidable renaming em->azK
open Go.Lib renaming trimPrefix->azI,hasPrefix->azJ
open Int renaming natCast_nonneg->azH
open List renaming getElem?_eq_some_iff->azG
theorem ajO(s:ByteArray)(w:World):Calls Tryz.prog 83 #[.string s,.string ⟨#[45]⟩] w (fun e w'=>∃D:ByteArray,D.data.toList=azI s.data.toList [45]/\e=.returned (.tuple #[.string D,.bool (azJ s.data.toList [45])])/\w=w'):=
 (Tryz.strings_CutPrefix s ⟨#[45]⟩ w).mono fun e w' h=>⟨_,by simp,h.1,h.2.symm⟩
theorem adP(w:World)(D:ByteArray):∃W C,(convert 9 46 (.string D)).run Tryz.prog w=.ok (.slice (some ⟨w.heap.size,0,none⟩) D.size C) W/\Below w.heap.size w W/\
 ∀(j:Nat) b,D.data.toList[j]? =some b->W.cell? ⟨w.heap.size,j,none⟩=some (.int .u8 (b.toNat:Int)):=by
 refine⟨_,_,run_bytes_of_string w 9 46 5 D Tryz.underlying9 Tryz.underlying46 Tryz.underlying5,aA (Below.refl _ _).drew (aN _ _),fun j b hj=> ?_⟩;obtain⟨h1,h2⟩:=azG.1 hj;have hs:j<D.data.size:=by simpa using h1
 have:=(World.cell?_alloc_mark w.drew (bytesRow D (grownCap w D.size 0 5)) 5 ((bytesRow D (grownCap w D.size 0 5)).size,(bytesRow D (grownCap w D.size 0 5)).size+1) j).trans (bytesRow_at D _ j hs);have e:D.data[j]=b:=by rw[<-h2];simp
 rw[e]at this;exact this
theorem agG(l:List UInt8):(azI l [45]).length<=l.length:=by
 unfold azI;split
 . simp
 . exact Nat.le_refl _
theorem agH(l:List UInt8):(azI l [45]=[]->numL l=none)/\∀b t,azI l [45]=b::t->(b.toNat=48->(azJ l [45]=true\/0<t.length)->numL l=none)/\
 (¬(b.toNat=48/\(azJ l [45]=true\/0<t.length))->numL l=(iR (b::t) 0).map fun(n:Nat)=>if azJ l [45]=true then-(n:Int)else(n:Int)):=by
 unfold numL;refine⟨fun h=>by rw[h],fun b t h=>⟨fun h1 h2=> ?_,fun h1=> ?_⟩⟩
 . rw[h];exact if_pos ⟨h1,h2⟩
 . rw[h];simp only;rw[if_neg h1]
theorem agI{l:List UInt8}{m:Nat}{x:UInt8}(h:l[m]? =some x):l.drop m=x::l.drop (m+1):=by
 obtain⟨h1,h2⟩:=azG.1 h;rw[List.drop_eq_getElem_cons h1,h2]
theorem amI{z:Int}(h:0<=z/\z<256):IntKind.u8.wrap z=z:=by
 simp only[IntKind.wrap,show IntKind.u8.signed=false from rfl,Bool.false_and,show(2:Int)^IntKind.u8.bits=256 from rfl];simp;omega
theorem ajP{s:ByteArray}{w:World}(hs:s.size<=20000):Calls Tryz.prog 59 #[.string s] w (RetV w (.tuple #[.int .i64 ((numL s.data.toList).getD 0),.bool (numL s.data.toList).isSome])):=by
 have HC:=hdd (ajO s w);have hR:=agH s.data.toList;have hTL:=agG s.data.toList;obtain⟨R,hRR⟩:∃R,numL s.data.toList=R:=⟨_,rfl⟩;obtain⟨ng,hng⟩:∃b,azJ s.data.toList [45]=b:=⟨_,rfl⟩;rw[hRR,hng]at hR;rw[hng]at HC;rw[hRR];clear hRR hng;go_enter Tryz.func59,Tryz.ntmps59
 go_wp2_with fail
 refine HC.out.mono ?_;rintro e w2⟨D,hD,rfl,hw⟩;obtain rfl:=hw;clear HC;rw[<-hD]at hR hTL;have hDD:D.toList=D.data.toList:=ByteArray.toList_eq D;have HR:=hdd hR;clear hR hD;rcases hd:D.data.toList with _|⟨b,t⟩
 . obtain rfl:=HR.out.1 hd
   rw[hd]at hDD;clear HR;go_wp2
   go_ret2
   exact⟨rfl,Below.refl _ _⟩
 . rw[hd]at hDD
   have hD0:D.size=t.length+1:=by
    have:D.size=D.data.toList.length:=by simp
    rw[this,hd];rfl
   obtain⟨h1,h2⟩:=HR.out.2 b t hd;have hi0:∀h,D[0]'h=b:=fun h=>by
    have:D.data.toList[0]? =some b:=by rw[hd];rfl
    obtain⟨q1,q2⟩:=azG.1 this;rw[<-q2];rfl
   obtain⟨W,C,hcv,hbl,hce⟩:=adP w D;rw[hD0]at hcv;have HBL:=hdd hbl;have HCE:=hdd hce;have HD:=hdd (And.intro hd hD0);rcases azK (b.toNat=48/\(ng=true\/0<t.length))with hc|hc
   . obtain rfl:=h1 hc.1 hc.2
     obtain⟨hb,hc⟩:=hc;have hbI:(b.toNat:Int)=48:=by omega
     clear h1 h2 HR hd hbl hce;rcases ng with _|_
     . have hlt:(1:Int)<(t.length:Int)+1:=by
        rcases hc with hc|hc
        . cases hc
        . omega
       go_wp2
       go_ret2
       exact⟨rfl,Below.refl _ _⟩
     . go_wp2
       go_ret2
       exact⟨rfl,Below.refl _ _⟩
   . have hR:=h2 hc
     have HRR:Hid (∀v,iR (b::t) 0=v->R=v.map fun(n:Nat)=>if ng=true then-(n:Int)else(n:Int)):=hdd fun v hv=>by rw[hR,hv]
     have hln:(t.length:Int)<=20000:=by
      rw[hd]at hTL;have e:s.data.toList.length=s.size:=by simp
      rw[e,List.length_cons]at hTL;omega
     clear h1 h2 HR hd hbl hce hR hTL;have hbc:(((b.toNat:Int)==48)=false)\/(((b.toNat:Int)==48)=true/\ng=false/\¬(1:Int)<(t.length:Int)+1):=by
      rcases azK (b.toNat=48)with h|h
      . refine Or.inr ⟨beq_iff_eq.2 (by omega),?_,?_⟩
        . rcases ng with _|_
          . rfl
          . exact absurd ⟨h,Or.inl rfl⟩ hc
        . have:¬0<t.length:=fun h0=>hc ⟨h,Or.inr h0⟩
          omega
      . exact Or.inl (beq_eq_false_iff_ne.2 (by omega))
     clear hc;have hbc:((((b.toNat:Int)==48)=false)/\ng=false)\/((((b.toNat:Int)==48)=false)/\ng=true)\/(((b.toNat:Int)==48)=true/\ng=false/\¬(1:Int)<(t.length:Int)+1):=by
      rcases hbc with h|h
      . rcases ng with _|_
        . exact Or.inl ⟨h,rfl⟩
        . exact Or.inr (Or.inl ⟨h,rfl⟩)
      . exact Or.inr (Or.inr h)
     rcases hbc with ⟨hb1,rfl⟩|⟨hb1,rfl⟩|⟨hb1,rfl,hb2⟩
     all_goals
      go_wp2_with fail
      go_loopw [6,32] (fun n i wr=>∃m k:Nat,m<=t.length+1/\k<=1000000/\i=.int .i64 (m:Int)/\n=.int .i64 (k:Int)/\Hid (iR (b::t) 0=iR ((b::t).drop m) k/\wr=W)) (fun _ i _=>(((t.length+1:Nat):Int)-intOf i).toNat)
      case atStart=>exact⟨0,0,Nat.zero_le _,by omega,rfl,rfl,hdd ⟨rfl,rfl⟩⟩
      case round=>
       obtain⟨m,k,hm,hk,rfl,rfl,HG⟩:=hrel;obtain⟨hdg,rfl⟩:=HG.out;rcases Nat.lt_or_ge m (t.length+1)with hlt|hge
       . obtain⟨x,hx⟩:∃x,(b::t)[m]? =some x:=⟨_,List.getElem?_eq_getElem (by simpa using hlt)⟩
         have ca:=HCE.out m x (by rw[HD.out.1];exact hx);rw[agI hx,qV x]at hdg;have hmI:(m:Int)<(t.length:Int)+1:=by omega
         have hm0:(0:Int)<=(m:Int):=azH _;have hk0:(0:Int)<=(k:Int):=azH _;have hkI:(k:Int)<=1000000:=by omega
         have HL:=hdd hlt;obtain⟨X,hX⟩:∃X:Nat,x.toNat=X:=⟨_,rfl⟩;rw[hX]at ca hdg;have HDG:=hdd hdg;clear hx hX hlt HG hdg hm hk;rcases azK (X<48\/57<X)with h|h
         . obtain rfl:=HRR.out none (by rw[HDG.out,if_pos h])
           have hXI:(X:Int)<48\/¬(X:Int)<48/\(57:Int)<X:=by omega
           clear HDG h;rcases hXI with h|⟨h,h'⟩
           all_goals
            go_wp2
            go_ret2
            exact⟨rfl,HBL.out⟩
         . have h3:¬(X:Int)<48:=by omega
           have h4:¬(57:Int)<(X:Int):=by omega
           obtain⟨Z,hZ⟩:∃Z:Nat,X=48+Z:=⟨X-48,by omega⟩;obtain⟨XI,hXI⟩:∃XI:Int,(X:Int)=XI:=⟨_,rfl⟩;have hZ0:(0:Int)<=(Z:Int):=azH _;have hZ9:(Z:Int)<=9:=by omega
           have hw1:IntKind.u8.wrap (XI-48)=(Z:Int):=by
            rw[show XI-48=(Z:Int) by omega];exact amI ⟨by omega,by omega⟩
           have HN:Hid (iR (b::t) 0=if 1000000<k*10+Z then none else iR ((b::t).drop (m+1)) (k*10+Z)):=hdd (by rw[HDG.out,if_neg h,show X-48=Z by omega]);rw[hXI]at h3 h4 ca;clear HDG h hZ hXI;rcases azK (1000000<k*10+Z)with h|h
           . obtain rfl:=HRR.out none (by rw[HN.out,if_pos h])
             have hI:(1000000:Int)<(k:Int)*10+(Z:Int):=by omega
             clear HN h;go_wp2
             go_ret2
             exact⟨rfl,HBL.out⟩
           . have hI:¬(1000000:Int)<(k:Int)*10+(Z:Int):=by omega
             have HN2:=hdd (And.intro (HN.out.trans (if_neg h)) h);clear HN h;go_wp2_with fail
             go_roundw
             case rel=>exact⟨m+1,k*10+Z,HL.out,by have:=HN2.out.2;omega,by go_num,by go_num,hdd ⟨HN2.out.1,trivial⟩⟩
             case measure=>exact fE HL.out
       . obtain rfl:m=t.length+1:=Nat.le_antisymm hm hge
         have hR:=HRR.out (some k) (by rw[hdg,List.drop_of_length_le (by simp)];rfl);have hkI:(k:Int)<=1000000:=by omega
         have hk0:(0:Int)<=(k:Int):=azH _;clear HG hdg hm hge hk HRR;subst hR;go_wp2
         go_ret2
         exact⟨rfl,HBL.out⟩
end
section
open Go.RowKit Go.Maps
def opsN(n:Nd):List Int:=if n.kind=0 then[]else if n.kind=5 then[n.a]else[n.a,n.b]
def ops2(n:Nd):Int×Int:=if n.kind=0 then(0,0)else if n.kind=5 then(n.a,0)else(n.a,n.b)
theorem xY{n:Nd}{w:World}:Calls Tryz.prog 295 #[iL n] w (fun e w'=>e=.returned (.tuple #[.agg #[.int .i64 (ops2 n).1,.int .i64 (ops2 n).2],.int .i64 ((opsN n).length:Nat)])/\Below w.heap.size w w'):=by
 obtain⟨kind,val,na,nb⟩:=n;unfold iL;obtain⟨w2,hw2,hb2,hs2,b1,b2⟩:=pro2 w (.cells #[.int .i64 kind,.float .f64 val,.int .i64 na,.int .i64 nb] 206) (.cells #[.int .i64 0,.int .i64 0] 276);obtain⟨c0,c1,c2,c3⟩:=bP b1;obtain⟨d0,d1,d2,d3⟩:=aB b2;have HB:=hdd hb2;have S:=fun u v=>hdd (set2 b2 u v);clear hb2 b1 b2 hs2;by_cases h0:kind=0
 . subst h0
   simp only[ops2,opsN,if_true,List.length_nil];go_enter Tryz.func295,Tryz.ntmps295
   go_wp2;obtain⟨x0,x1,-,-⟩:=aB (S (.int .i64 0) (.int .i64 0)).out;refine bodyPost_ret (v:=.tuple #[.agg #[_,_],_]) (by simp[results,Tryz.results295,go_sem,x0,x1];first|exact⟨⟨rfl,rfl⟩,rfl⟩|rfl) rfl ?_;exact⟨rfl,(HB.out.setCell (by simp) _).setCell (by simp) _⟩
 . by_cases h5:kind=5
   . subst h5
     have e1:ops2 ⟨5,val,na,nb⟩=(na,0):=by simp[ops2]
     have e2:(opsN ⟨5,val,na,nb⟩).length=1:=by simp[opsN]
     rw[e1,e2];clear e1 e2 h0;go_enter Tryz.func295,Tryz.ntmps295
     go_wp2;obtain⟨x0,x1,-,-⟩:=aB (S (.int .i64 na) (.int .i64 0)).out;refine bodyPost_ret (v:=.tuple #[.agg #[_,_],_]) (by simp[results,Tryz.results295,go_sem,x0,x1];first|exact⟨⟨rfl,rfl⟩,rfl⟩|rfl) rfl ?_;exact⟨rfl,(HB.out.setCell (by simp) _).setCell (by simp) _⟩
   . have e1:ops2 ⟨kind,val,na,nb⟩=(na,nb):=by simp[ops2,h0,h5]
     have e2:(opsN ⟨kind,val,na,nb⟩).length=2:=by simp[opsN,h0,h5]
     rw[e1,e2];have t0:(kind==0)=false:=beq_eq_false_iff_ne.2 h0;have t5:(kind==5)=false:=beq_eq_false_iff_ne.2 h5;clear e1 e2 h0 h5;go_enter Tryz.func295,Tryz.ntmps295
     go_wp2;obtain⟨x0,x1,-,-⟩:=aB (S (.int .i64 na) (.int .i64 nb)).out;refine bodyPost_ret (v:=.tuple #[.agg #[_,_],_]) (by simp[results,Tryz.results295,go_sem,x0,x1];first|exact⟨⟨rfl,rfl⟩,rfl⟩|rfl) rfl ?_;exact⟨rfl,(HB.out.setCell (by simp) _).setCell (by simp) _⟩
theorem bU:Tryz.prog.underlying 343=some (.map 3 3):=by kernel_rfl
theorem zH:Tryz.prog.underlying 3=some (.int .i64):=by kernel_rfl
theorem kK:Tryz.prog.underlying 25=some (.slice 3):=by kernel_rfl
theorem aJ:Keyed Tryz.prog 3:=int_keyed zH
theorem pM:(Tryz.prog.info? 3).map (fun i=>(i.zero,i.size,i.bytes))=some (some (.int .i64 0),1,8):=by kernel_rfl
theorem dW(w:World):(zeroValue 3).run Tryz.prog w=.ok (.int .i64 0) w:=by kernel_rfl
theorem jQ{i:Int}(h:-9223372036854775808<=i/\i<9223372036854775808):keyOf Tryz.prog 3 (.int .i64 i)=some (.int .i64 i):=keyOf_int_mk zH (by
 have e1:IntKind.i64.min=-9223372036854775808:=rfl;have e2:IntKind.i64.max=9223372036854775807:=rfl;simp[Lit.wf,e1,e2];omega)
def bE(l:List Nat):List Value:=l.map fun(x:Nat)=>Value.int .i64 (x:Int)
def VS(w:World)(gv gs mb:Nat)(sv:Value)(vis st:List Nat):Prop:=
 ∃m,w.heap[gv]? =some (.cells #[.map (some mb)] 343 (0,0))/\w.heap[gs]? =some (.cells #[sv] 25 (0,0))/\MapP Tryz.prog 3 w mb m/\
  (∀i:Nat,m (.int .i64 (i:Int))=if i∈vis then some (.int .i64 1)else none)/\w.ownsRow 0 3 1 sv st.length (bE st)/\gv≠gs/\mb≠gs/\mb≠gv/\sv.ownBlock≠some gs/\sv.ownBlock≠some gv/\sv.ownBlock≠some mb
end
end Go.Proofs.YtigoiiekebccnaaGreatDoor
