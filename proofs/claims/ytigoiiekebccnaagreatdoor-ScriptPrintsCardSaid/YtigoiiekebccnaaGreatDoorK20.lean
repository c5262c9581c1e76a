/- A part of the proof: contracts of functions and plain laws (ScK, ScH, ScI, HelC, DyA, DyB, DyC, DyE). -/
import Derived.Test.YtigoiiekebccnaaGreatDoorK19
import Derived.Lib.AppendIntMem
import Derived.Test.YtigoiiekebccnaaGreatDoorK07
import Derived.Test.YtigoiiekebccnaaGreatDoorK08
set_option linter.unusedVariables false
set_option linter.unusedSimpArgs false
set_option linter.unnecessarySimpa false
set_option maxHeartbeats 25600000
set_option maxRecDepth 100000
namespace Go.Proofs.YtigoiiekebccnaaGreatDoor
section
open Go.RowKit Go.Shelf
open Go.Value renaming ownBlock->bcY
open List renaming mem_cons_self->bcZ,map_cons->bc4,perm_middle->bc5,nodup_cons->bc6
section
variable{P:Program}
theorem p8(w:World)(t u ty e:TypeId)(i:TypeInfo)(ht:P.underlying t=some (.slice e))(hu:P.underlying u=some .string)(hi:P.info? e=some i)(hz:i.zero=some (.int .u8 0))
 (hsize:i.size=1) (hby:i.bytes=1) (v:Value) (n:Nat) (xs:List Value) (hown:w.ownsRow 0 e 1 v n xs) (s:ByteArray) (h63:n+s.size<=maxLen) (hbytes:n+s.size<=140737488355328):
 ∃v' w',(Builtin.append_ #[t,u] ty #[v,.string s]).run P w=.ok v' w'/\w'.ownsRow 0 e 1 v' (n+s.size) (xs++Lib.strCells s)/\w.grownBy w' v.ownBlock/\∀g,v'.ownBlock=some g->v.ownBlock=some g\/w.heap.size<=g:=by
 have hsmall:n+s.size<=9223372036854775807:=by simp only[maxLen]at h63;omega
 obtain⟨v',w',hr,h1,h2,h3⟩:=Lib.run_append_own_string (P:=P) w 0 t u ty e i ht hu hi hz hsize hby v n xs hown s h63 hbytes (Nat.zero_le _);refine⟨v',w',hr,h1,h2,fun g hg=> ?_⟩;obtain⟨hxl,hown2⟩:=id hown;rcases hown2 with ⟨rfl,rfl⟩|⟨r,cap,cur,rfl,hbg,hcur,hnc,hcm,hcs,htake⟩
 . obtain⟨v2,w2,hr2,k1,k2,-⟩:=Lib.run_append_own_string (P:=P) w w.heap.size t u ty e i ht hu hi hz hsize hby (.slice none 0 0) 0 xs ⟨hxl,Or.inl ⟨rfl,rfl⟩⟩ s h63 hbytes nlr
   rw[hr]at hr2;injection hr2 with e1 e2;subst e1 e2;exact Or.inr (k1.lt g hg).1
 . have hcs':cur.size=cap:=by simpa using hcs
   by_cases hroom:n+s.size<=cap
   . have hr2:=Lib.run_append_room_string (P:=P) w t u ty e i ht hu hi hsize r n cap cur hcur s hroom (by omega)
     rw[hr]at hr2;injection hr2 with e1 e2;rw[e1]at hg;exact Or.inl (by simpa[bcY]using hg)
   . have holds:∀j u,xs[j]? =some u->w.cell? ((⟨r,0,none⟩:Addr).add j)=some u:=hown.cells (g:=r) rfl
     have hr2:=Lib.run_append_grow_string (P:=P) w t u ty e i (.int .u8 0) ht hu hi hz ⟨r,0,none⟩ n cap xs (by rw[hsize];simpa using hxl) holds s (by omega) (by omega) (by rw[hby];exact growslice_fits (by omega) (by omega));rw[hr]at hr2;injection hr2 with e1 e2;rw[e1]at hg
     exact Or.inr (by have:w.heap.size=g:=by simpa[bcY]using hg
                      omega)
theorem lY(w:World){ops:Array Oper}{rest:List Oper}{o:Oper}{a:Act}{Q:Exit->Act->World->Prop}(hgd:o.guard=none)(sl x:Operand)(t u:TypeId)
 (ho:o.op=.call {callee:=.builtin .append,args:=#[sl,x],argTypes:=#[t,u]})
 (e:TypeId) (i:TypeInfo) (ht:P.underlying t=some (.slice e)) (hu:P.underlying u=some .string) (hi:P.info? e=some i) (hz:i.zero=some (.int .u8 0)) (hsize:i.size=1) (hby:i.bytes=1)
 (v:Value) (n:Nat) (xs:List Value) (hs:a.eval sl=v) (hown:w.ownsRow 0 e 1 v n xs) (s:ByteArray) (hx:a.eval x=.string s)
 (h63:n+s.size<=maxLen) (hbytes:n+s.size<=140737488355328)
 (h:∀v' w',w'.ownsRow 0 e 1 v' (n+s.size) (xs++Lib.strCells s)->w.grownBy w' v.ownBlock->(∀g,v'.ownBlock=some g->v.ownBlock=some g\/w.heap.size<=g)->wpList P ops Q rest (a.put o.dst v') w'):wpList P ops Q (o::rest) a w:=by
 refine wpList_plain hgd fun K hK=> ?_;obtain⟨v',w',hr,h2,h3,h4⟩:=p8 (P:=P) w t u o.type e i ht hu hi hz hsize hby v n xs hown s h63 hbytes;unfold Oper.wp execOp;simp only[ho,resolve,invoke,builtin,Sem.run_bind,Sem.run_pure,Result.andThen_ok,List.map_toArray,bc4,List.map_nil,hs,hx,hr];exact hK _ _ (h v' w' h2 h3 h4)
end
section
variable{s:Bs}{g N n n' sz g0 cap:Nat}{K:List (Ex×Nat)}{L lr:List (Nat×Obj)}{W w':World}{v:Value}{xs xs':List Value}{T:TypeId}
theorem OwnR.grow2 (h:OwnR T sz v n xs lr)(hR:Run s g N K (lr++L) W)(hown:w'.ownsRow 0 T sz (.slice (some ⟨g0,0,none⟩) n' cap) n' xs')(hg:W.grownBy w' v.ownBlock)(hat:v.ownBlock=some g0\/W.heap.size<=g0):
 ∃lr',OwnR T sz (.slice (some ⟨g0,0,none⟩) n' cap) n' xs' lr'/\Run s g N K (lr'++L) w':=by
 obtain⟨hx,hy⟩:=hown;rcases hy with ⟨e,-⟩|⟨g1,c1,cur,e,-,hgg,h1,h2,h3,h4⟩
 . simp at e
 . simp only[Value.slice.injEq,Option.some.injEq,Addr.mk.injEq]at e
   obtain⟨⟨rfl,-⟩,-,rfl⟩:=e;refine⟨[(g0,.cells cur T)],⟨hx,Or.inr ⟨g0,cap,cur,rfl,rfl,h1,h2,h3,h4⟩⟩,?_⟩;rcases h.2 with ⟨rfl,-,rfl⟩|⟨r,c,cur',rfl,rfl,-⟩
   . rcases hat with e|hat
     . simp[bcY]at e
     . exact Run.keep hR ⟨hg.os,hg.tape,hg.output,hg.size,fun b hb=>hg.block b hb (by simp[bcY])⟩ hgg hat
   . rcases hat with e|hat
     . obtain rfl:r=g0:=by simpa[bcY]using e
       exact Run.write hR hg hgg
     . have hl:=hR.at (bcZ ..)
       obtain⟨o',ho'⟩:∃o',w'.heap[r]? =some o':=⟨_,Array.getElem?_eq_getElem (Nat.lt_of_lt_of_le (aD hl) hg.size)⟩;have h5:=Run.board (ln:=[(g0,.cells cur T)]) hR hg ho' (fun p hp=>by
        obtain rfl:=List.mem_singleton.1 hp;exact⟨hgg,hat⟩) nlr
       exact h5.sub (fun p hp=>List.mem_cons_of_mem _ hp) (bc6.1 (by have:=h5.nodup;rwa[bc4]at this)).2
end
def BldR(b:Nat)(l:List UInt8)(lb:List (Nat×Obj)):Prop:=∃p v lr,lb=(b,.cells #[p,v] 48)::lr/\(p=.pointer none\/p=.pointer (some ⟨b,0,none⟩))/\OwnR 5 1 v l.length (Lib.byteCells l) lr
section
variable{s:Bs}{g N b:Nat}{K:List (Ex×Nat)}{L lb lr:List (Nat×Obj)}{W:World}{l:List UInt8}{x:ByteArray}{v:Value}{T:TypeId}{n:Nat}{xs:List Value}
theorem BldR.new (b:Nat):BldR b [] [(b,.cells #[.pointer none,.slice none 0 0] 48)]:=⟨_,_,[],rfl,Or.inl rfl,OwnR.nil _ _⟩
theorem ae5{o:Obj}(h:OwnR T 1 v n xs lr)(hR:Run s g N K ((b,o)::(lr++L)) W):v.ownBlock≠some b:=by
 rcases h.2 with ⟨rfl,-,rfl⟩|⟨r,c,cur,rfl,rfl,-⟩
 . simp[bcY]
 . have hn:=hR.nodup
   simp only[bc4,List.cons_append,List.nil_append,bc6,List.mem_cons,not_or]at hn;simp only[bcY,ne_eq,Option.some.injEq];exact fun e=>hn.1.1 e.symm
end
theorem akJ{b:Nat}{p v:Value}{w:World}(hb:w.heap[b]? =some (.cells #[p,v] 48 (0,0)))(hp:p=.pointer none\/p=.pointer (some ⟨b,0,none⟩)):
 Calls Tryz.prog 42 #[.pointer (some ⟨b,0,none⟩)] w fun e w'=>e=.returned (.tuple #[])/\w.grownBy w' (some b)/\w'.heap[b]? =some (.cells #[.pointer (some ⟨b,0,none⟩),v] 48 (0,0)):=by
 obtain⟨j,hj,hjs⟩:∃j,Tryz.prog.info? 48=some j/\j.size=2:=⟨_,rfl,by kernel_rfl⟩;obtain⟨c0,c1,f0,f1⟩:=aB hb;rcases hp with rfl|rfl
 . have hsh:w.shape? b=some (48,2):=by simp[World.shape?,hb]
   have HF:=hdd (And.intro (grownBy_set (pY w (some b)) (i:=0) (.pointer (some ⟨b,0,none⟩))) (zO (k:=0) (v:=.pointer (some ⟨b,0,none⟩)) (cs:=[.pointer none,v]) hb));clear hb;go_enter Tryz.func42,Tryz.ntmps42
   have hu:=run_underlying Tryz.underlying45;go_wp2;rw[Lib.run_to_unsafe w ⟨b,0,none⟩ Tryz.underlying45 Tryz.underlying115 hj (by rw[hjs];decide) hsh (Nat.zero_lt_succ 1)];simp only[Result.andThen];rw[Oper.upon_value];go_wp2;rw[run_callFunc_extern Tryz.func74 (by kernel_rfl) (by kernel_rfl) (by kernel_rfl) (e:=Extern.AbiNoEscape.same) (by kernel_rfl)];rw[Lib.run_noEscape];simp only[Result.andThen];rw[Oper.upon_value];go_wp2;rw[Lib.run_from_unsafe w ⟨b,0,none⟩ Tryz.underlying115 Tryz.underlying45 hj hsh (by kernel_rfl)];simp only[Result.andThen];rw[Oper.upon_value];go_wp2
   go_end0
   exact⟨rfl,HF.out⟩
 . have HF:=hdd hb
   have hnq:=Go.Lib.run_neq_ptr_same w ⟨b,0,none⟩ ae4 hj;clear hb;go_enter Tryz.func42,Tryz.ntmps42
   have hu:=run_underlying Tryz.underlying45;go_wp2
   go_end0
   exact⟨rfl,pY _ _,HF.out⟩
section
variable{s:Bs}{g N b:Nat}{K:List (Ex×Nat)}{L lb lr:List (Nat×Obj)}{W:World}{l:List UInt8}{x:ByteArray}{v:Value}{T:TypeId}{n:Nat}{xs:List Value}
theorem aoO(h:BldR b l lb)(hR:Run s g N K (lb++L) W)(h0:0<x.size)(hs:l.length+x.size<=1000000):
 Calls Tryz.prog 20 #[.pointer (some ⟨b,0,none⟩),.string x] W fun e W'=>e=.returned (.tuple #[.int .i64 x.size,.nilIface])/\∃lb',BldR b (l++x.data.toList) lb'/\Run s g N K (lb'++L) W':=by
 obtain⟨i0,hi,hz0,hz1,hz2⟩:=info_parts vL;obtain⟨p,v,lr,rfl,hp,ho⟩:=h;have hb:=hR.at (bcZ ..);have HC:=hdd (akJ hb hp);have HR:=hdd hR;have HO:=hdd ho;clear hR hp hb ho;go_enter Tryz.func20,Tryz.ntmps20
 go_wp2_with fail
 refine HC.out.mono ?_;rintro e w1⟨rfl,hg1,hb1⟩;have HR1:=hdd (HR.out.write hg1 hb1);have HP1:=hdd (HR1.out.perm (l':=lr++((b,.cells #[.pointer (some ⟨b,0,none⟩),v] 48)::L)) bc5);have hown:=HO.out.own HP1.out;have HNE:=hdd (ae5 HO.out HR1.out);obtain⟨c0,c1,f0,f1⟩:=aB hb1;clear hg1 hb1 HC HR;go_wp2_with (at_builtin;refine lY _ rfl _ _ 46 9 rfl 5 i0 Tryz.underlying46 Tryz.underlying9 hi hz0 hz1 hz2 _ _ _ rfl hown x rfl ?c3 ?c4 ?_)
 case c3=>unfold maxLen;omega
 case c4=>omega
 intro v' w2 hown' hgrow hat;obtain⟨g0,n',cap,rfl⟩:∃g0 n' cap,v'=.slice (some ⟨g0,0,none⟩) n' cap:=by
  rcases hown'.2 with ⟨-,hv⟩|⟨g,cap,cur,hv,_⟩
  . omega
  . exact⟨_,_,_,hv⟩
 obtain rfl:l.length+x.size=n':=by
  rcases hown'.2 with ⟨-,hv⟩|⟨g,cap,cur,hv,_⟩
  . omega
  . simp only[Value.slice.injEq]at hv;exact hv.2.1.symm
 obtain⟨lr',ho',hR2⟩:=HO.out.grow2 HP1.out hown' hgrow (hat g0 rfl);have hR3:=hR2.perm (l':=(b,.cells #[.pointer (some ⟨b,0,none⟩),v] 48)::(lr'++L)) bc5.symm;have hb2:=hR3.at (bcZ ..);obtain⟨d0,d1,g0',g1'⟩:=aB hb2;have hR4:=hR3.write (grownBy_set (pY w2 (some b)) (i:=1) (.slice (some ⟨g0,0,none⟩) (l.length+x.size) cap)) (zO (k:=1) (v:=.slice (some ⟨g0,0,none⟩) (l.length+x.size) cap) (cs:=[.pointer (some ⟨b,0,none⟩),v]) hb2);have HF:=hdd (show BldR b (l++x.data.toList) ((b,.cells #[.pointer (some ⟨b,0,none⟩),.slice (some ⟨g0,0,none⟩) (l.length+x.size) cap] 48)::lr') from⟨_,_,lr',rfl,Or.inr rfl,by
  rw[Lib.byteCells_append,<-Lib.strCells_eq,List.length_append,show x.data.toList.length=x.size by rw[Array.length_toList];rfl];exact ho'⟩)
 have HR4:=hdd hR4;clear hown' hgrow hown hb2 ho' hR2 hR3 hR4 hat HR1 HP1;go_wp2
 go_ret2
 exact⟨rfl,_,HF.out,HR4.out⟩
end
end
section
open Go.RowKit
open Bool renaming and_eq_true->bdD
open Go.Lib renaming itoa->bdG,decDigits->bdO
open Int renaming natCast_nonneg->bdE,ofNat_lt->bdQ
open List renaming length_cons->bc7,take_of_length_le->bc8,mem_of_getElem?->bc9,getElem?_eq_getElem->bdA,length_append->bdB,take_add_one->bdF,all_eq_true->bdI,length_singleton->bdK,mem_cons_of_mem->bdM,mem_cons_self->bdP,intercalate->bdS
open Nat renaming lt_or_ge->bdC,le_refl->bdH,le_antisymm->bdJ,le_of_ble_eq_true->bdL,add_sub_cancel'->bdN,le_trans->bdR,zero_le->bdT,pow_add->bdU,two_pow_pos->bdV
variable{n:Int}{xs:List Nat}{g m:Nat}{p:Nat->Prop}{T:TypeId}{a b c v va:Value}{w w':World}
abbrev T10 (w : World) : Prop := Lib.TabIs Tryz.prog w "internal/strconv.uint64pow10" .u64 Lib.pow10Tab
theorem T10.low (h:T10 w)(hb:Below w.heap.size w w'):T10 w':=Lib.tabBelow_of_tabIs h w' hb
theorem p9(h:T10 w)(hn:-9223372036854775808<=n/\n<=9223372036854775807):Calls Tryz.prog 38 #[.int .i64 n] w (RetV w (.string ⟨(bdG n).toArray⟩)):=
 (Tryz.strconv_Itoa n hn.1 hn.2 w h).mono fun e w' ⟨he,k,os,hw⟩=>⟨he,by rw[hw];exact Lib.below_grow _ _ nlr _ _⟩
def joinL(x:ByteArray)(xs:List Int):List UInt8:=[32].intercalate (x.data.toList::xs.map bdG)
def kG(x:ByteArray)(xs:List Int):List ByteArray:=x::xs.map fun n=>⟨(bdG n).toArray⟩
theorem vN(x:ByteArray)(xs:List Int):Lib.join ((kG x xs).map fun b=>b.data.toList) [32]=joinL x xs:=by
 unfold kG joinL Lib.join;rw[List.map_cons,List.map_map]
 congr 2
theorem abW:Tryz.prog.underlying 60=some (.slice 9):=by kernel_rfl
theorem akK:(Tryz.prog.info? 9).map (fun i=>(i.zero,i.size,i.bytes))=some (some (.string ⟨#[]⟩),1,16):=by kernel_rfl
abbrev cellsS(l:List ByteArray):List Value:=l.map Value.string
theorem abX{x:ByteArray}{xs:List Int}(hT:T10 w)(hx:x.data.toList≠[])(hv:IntS w v xs)(hl:xs.length<=1000000)(hj:(joinL x xs).length<=140737488355328)(h64:∀n∈xs,-9223372036854775808<=n/\n<=9223372036854775807):
 Calls Tryz.prog 21 #[.string x,v] w (RetV w (.string ⟨(joinL x xs).toArray⟩)):=by
 obtain⟨p,c,rfl,h1,h2,hc⟩:=id hv;have hxt:(x.toList==[])=false:=by
  rw[ByteArray.toList_eq];exact beq_eq_false_iff_ne.2 hx
 have hxn:(x.toList != [])=true:=by simp only[bne,hxt,Bool.not_false]
 obtain⟨wa,hwa,hba,hsa,ba⟩:=pro1 w (.cells #[.string x] 9);obtain⟨i0,hi0,hz0,hz1,hz2⟩:=info_parts akK;have HI0:=hdd hi0;have HZ0:=hdd hz0;have HZ1:=hdd hz1;have HZ2:=hdd hz2;have HNW:=hdd (dM ba);have HBA:=hdd hba;have HSA:Hid (w.heap.size<=wa.heap.size):=hdd hba.size;have HV:=hdd hv;have HT:=hdd hT;have H64:=hdd h64;have HL:=hdd hl;have HJ:=hdd hj;have hlI:(xs.length:Int)<=1000000:=by omega
 obtain⟨n,hn⟩:∃n,xs.length=n:=⟨_,rfl⟩;have HN:=hdd hn;rw[hn]at HL hlI h1|-;clear hv hT h64 hl hc hba hsa ba hi0 hz0 hz1 hz2 h1 h2 hx hj hn;go_enter Tryz.func21,Tryz.ntmps21
 go_wp2_with (first
  |(at_builtin
    go_loud (
    refine wpList_append_lies _ rfl _ _ 60 rfl w.heap.size 9 i0 (.string ⟨#[]⟩) 1 16 abW HI0.out HZ0.out HZ1.out HZ2.out rfl (by decide) (.slice none 0 0) 0 [] rfl (World.ownsRow_nil _ _ _ _) ⟨w.heap.size,0,none⟩ 1 1 [.string x] rfl rfl HNW.out (by simp[Value.oneCell']) (by decide) (by unfold maxLen;omega) (by omega) HSA.out wa.heap.size rfl ?_;intro r cap w4 hown4 hgrow4 hat4 hlt4;have HO4:Hid (w4.ownsRow w.heap.size 9 1 (.slice (some ⟨r,0,none⟩) (0+1) cap) (0+1) (cellsS (kG x (xs.take 0)))/\Below w.heap.size w w4):=hdd ⟨hown4,HBA.out.trans (below_grown hgrow4 HSA.out (fun b hb=>by cases hb))⟩;clear hown4 hgrow4 hat4 hlt4)))
 go_loopw [5,16] (fun v i wr=>∃m r cap:Nat,m<=n/\i=.int .i64 (m:Int)/\v=.slice (some ⟨r,0,none⟩) (m+1) cap/\Hid (wr.ownsRow w.heap.size 9 1 (.slice (some ⟨r,0,none⟩) (m+1) cap) (m+1) (cellsS (kG x (xs.take m)))/\Below w.heap.size w wr)) (fun _ i _=>((n:Int)-intOf i).toNat)
 case atStart=>exact⟨0,r,cap,bdT _,rfl,rfl,HO4⟩
 case round=>
  obtain⟨m,r1,cap1,hm,rfl,rfl,HG⟩:=hrel;rcases bdC m n with hlt|hge
  . obtain⟨y,hy⟩:∃y,xs[m]? =some y:=⟨_,bdA (by rw[HN.out];exact hlt)⟩
    obtain⟨hown,hbl⟩:=HG.out;obtain⟨p',c',e',-,-,hcc⟩:=HV.out.below hbl;obtain⟨b,o,rfl,ca⟩:=hcc m y hy;simp only[Value.slice.injEq]at e';obtain⟨rfl,-,-⟩:=e';have hmI:(m:Int)<(n:Int):=bdQ.2 hlt;have hm0:(0:Int)<=(m:Int):=bdE _;have HIT:=hdd (p9 (w:=wr) (HT.out.low hbl) (H64.out y (bc9 hy)));have HLT:=hdd (And.intro hlt hy);have H5:=hdd (And.intro hown hbl);clear hy hlt hown hbl hcc HG hm;go_wp2_with fail
    refine HIT.out.mono ?_;rintro e wb⟨rfl,hbb⟩;obtain⟨wc,hwc,hbc,hsc,bc⟩:=pro1 wb (.cells #[.string ⟨(bdG y).toArray⟩] 9);have HNC:=hdd (dM bc);have HB5:=hdd (aA H5.out.2 (aA hbb hbc));have HO5:=hdd (H5.out.1.kept (aH (row:=none) (aA hbb hbc)) (Or.inr (by simp[Value.ownBlock])));have HSZ:Hid (w.heap.size<=wc.heap.size):=hdd HB5.out.size;have HRB:=hdd (H5.out.1.lt r1 rfl).1;clear hbb hbc hsc bc HIT;go_wp2_with (first
     |(at_builtin
       go_loud (
       refine wpList_append_lies _ rfl _ _ 60 rfl w.heap.size 9 i0 (.string ⟨#[]⟩) 1 16 abW HI0.out HZ0.out HZ1.out HZ2.out rfl (by decide) (.slice (some ⟨r1,0,none⟩) (m+1) cap1) (m+1) (cellsS (kG x (xs.take m))) rfl HO5.out ⟨wb.heap.size,0,none⟩ 1 1 [.string ⟨(bdG y).toArray⟩] rfl rfl HNC.out (by simp[Value.oneCell']) (by decide) (by have:=HLT.out.1;have:=HL.out;unfold maxLen;omega) (by have:=HLT.out.1;have:=HL.out;omega) HSZ.out wc.heap.size rfl ?_;intro r2 cap2 w8 hown8 hgrow8 hat8 hlt8;have HO8:Hid (w8.ownsRow w.heap.size 9 1 (.slice (some ⟨r2,0,none⟩) (m+1+1) cap2) (m+1+1) (cellsS (kG x (xs.take (m+1))))/\Below w.heap.size w w8):=hdd ⟨by
        rw[bdF,HLT.out.2];simpa[kG,cellsS]using hown8,HB5.out.trans (below_grown hgrow8 HSZ.out (fun b hb=>by have:r1=b:=Option.some.inj hb;have:=HRB.out;omega))⟩
       clear hown8 hgrow8 hat8 hlt8)))
    clear hwc HO5 HNC
    go_roundw
    case rel=>exact⟨m+1,r2,cap2,HLT.out.1,by go_num,rfl,HO8⟩
    case measure=>exact fE HLT.out.1
  . obtain rfl:m=n:=bdJ hm hge
    obtain⟨hown,hbl⟩:=HG.out;rw[bc8 (by rw[HN.out];exact bdH _)]at hown;have hpl:(kG x xs).length=m+1:=by simp[kG,HN.out]
    have hlt:=(hown.lt r1 rfl).2;have hcap:m+1<=cap1:=by
     rcases hown.2 with ⟨e,-⟩|⟨r',c',cur,e,-,-,h1,-⟩
     . simp at e
     . simp only[Value.slice.injEq]at e;omega
    have HJN:=hdd (Tryz.strings_Join r1 0 cap1 (kG x xs) ⟨#[32]⟩ wr (fun j y hy=>by
     have hj:=(List.getElem?_eq_some_iff.1 hy).1;rw[Nat.zero_add,hown.cellAt j (by omega)];simp[hy]) hlt (by have:=HL.out;omega) (by omega) (by rw[show(⟨#[32]⟩:ByteArray).data.toList=[32] from rfl,vN];exact HJ.out))
    rw[show(⟨#[32]⟩:ByteArray).data.toList=[32] from rfl,vN,hpl]at HJN;have HB:=hdd hbl;clear hown hbl HG hm hge hlt hcap hpl;go_wp2_with fail
    refine HJN.out.mono ?_;rintro e wz⟨rfl,hbz⟩;have HBZ:=hdd (aA HB.out hbz);clear hbz;go_wp2;go_ret;exact⟨rfl,HBZ.out⟩
def qA(x:Stp):Bool:=dE x.1 x.2
def jI(l:List Stp):List UInt8:=l.flatMap fun x=>joinL x.1 x.2++[10]
def kX(l:List Stp):List UInt8 ⊕ Int:=if l.all qA then(if 200<l.length then .inr 7 else .inl (jI l))else .inr 6
def akL(w:World)(r:List UInt8 ⊕ Int)(e:Ending)(w':World):Prop:=Below w.heap.size w w'/\match r with
 | .inl t=>e=.returned (.tuple #[.string ⟨t.toArray⟩,.nilIface])
 | .inr k=>e=.returned (.tuple #[.string ⟨#[]⟩,.iface 57 (.int .i64 k)])
theorem zP:∀(k u:Nat),u<10^(k+1)->(bdO u).length<=k+1
 |0,u,h=>by
  have h:u<10:=by simpa using h
  rw[bdO,dif_pos h];simp
 |k+1,u,h=>by
  rw[bdO]
  split
  . simp
  . have:=zP k (u/10) (by rw[Nat.pow_succ]at h;omega)
    rw[bdB,bdK];omega
theorem akM(h:inR n=true):(bdG n).length<=8:=by
 unfold inR at h;simp only[bdD,decide_eq_true_eq]at h;unfold bdG
 split
 . have:=zP 6 n.natAbs (by omega);simp;omega
 . have:=zP 6 n.toNat (by omega);omega
theorem ag0(x:ByteArray):∀(xs:List Int),(∀n∈xs,inR n=true)->(joinL x xs).length<=x.size+xs.length*9:=by
 have key:∀(ys:List (List UInt8)) (a:List UInt8),(∀y∈ys,y.length<=8)->([(32:UInt8)].intercalate (a::ys)).length<=a.length+ys.length*9:=by
  intro ys
  induction ys with
  |nil=>intro a _;simp[bdS]
  |cons y ys ih=>
   intro a h;have:=ih y fun z hz=>h z (bdM _ hz);have hy:=h y (bdP ..);have e:[(32:UInt8)].intercalate (a::y::ys)=a++32::[32].intercalate (y::ys):=by simp[bdS]
   rw[e,bdB,bc7,bc7];omega
 intro xs h;have:=key (xs.map bdG) x.data.toList fun y hy=>by
  obtain⟨n,hn,rfl⟩:=List.mem_map.1 hy;exact akM (h n hn)
 rw[List.length_map]at this;exact bdR this (by simp)
theorem kY{x:ByteArray}{xs:List Int}(h:dE x xs=true):(∀n∈xs,inR n=true)/\x.data.toList≠[]/\x.size<=5/\xs.length<=7/\∃p∈wTab,x=⟨p.1.toArray⟩/\p.2=(xs.length:Int):=by
 unfold dE at h;rw[bdD,bdI,beq_iff_eq]at h;obtain⟨h1,h2⟩:=h;have hr:=xX x;refine⟨h1,?_⟩;rcases nI x with ⟨p,hp,rfl⟩|⟨-,hv⟩
 . have hs:shpW ⟨p.1.toArray⟩=p.2/\p.1≠[]/\p.1.length<=5:=by
    simp only[wTab,List.mem_cons,List.not_mem_nil,or_false]at hp;rcases hp with rfl|rfl|rfl|rfl|rfl|rfl|rfl|rfl|rfl|rfl|rfl|rfl|rfl|rfl|rfl<;>decide
   refine⟨by simpa using hs.2.1,?_,by omega,p,hp,rfl,by rw[<-hs.1];exact h2⟩;show p.1.toArray.size<=5;simpa using hs.2.2
 . omega
theorem qB{x:Stp}(h:qA x=true):(joinL x.1 x.2).length<=70:=by
 obtain⟨h1,-,h2,h3,-⟩:=kY h;have:=ag0 x.1 x.2 h1;omega
theorem akN{l:List Stp}(h:∀x∈l,qA x=true):(jI l).length<=l.length*71:=by
 induction l with
 |nil=>simp[jI]
 |cons a l ih=>
  have:=ih fun x hx=>h x (bdM _ hx);have ha:=qB (h a (bdP ..));have e:jI (a::l)=(joinL a.1 a.2++[10])++jI l:=rfl;rw[e,bdB,bdB,bdK,bc7];omega
theorem ag1{l:List Stp}{x:Stp}(h:l[m]? =some x):jI (l.take (m+1))=jI (l.take m)++joinL x.1 x.2++[10]:=by
 rw[bdF,h];simp[jI]
theorem aoP(h:inR n=true):-9223372036854775808<=n/\n<=9223372036854775807:=by
 unfold inR at h;simp only[bdD,decide_eq_true_eq]at h;omega
theorem ag2{l:List Stp}{x:Stp}(h:l[m]? =some x)(hf:qA x=false):kX l=.inr 6:=by
 unfold kX;rw[show l.all qA=false from List.all_eq_false.2 ⟨x,bc9 h,by simp[hf]⟩];rfl
theorem qZ{l:List Stp}(hT:T10 w)(hv:zM w v l)(hl:l.length<=300)(hx:∀x∈l,x.2.length<=1000):Calls Tryz.prog 8 #[v] w (akL w (kX l)):=by
 obtain⟨p,c,rfl,hc⟩:=id hv;have HLM:=fun w'=>hdd (ae2 (w:=w'));have HSC:=fun w'=>hdd (vJ (w:=w'));have HT:=hdd hT;have HC:=hdd hc;have HX:=hdd hx;have HBAD:Hid (∀(m:Nat) (x:Stp),l[m]? =some x->qA x=false->kX l=.inr 6):=hdd fun m x h1 h2=>ag2 h1 h2;obtain⟨R,hR⟩:∃R,kX l=R:=⟨_,rfl⟩;have HRE:=hdd hR;rw[hR]at HBAD|-;obtain⟨n,hn⟩:∃n,l.length=n:=⟨_,rfl⟩;have HN:=hdd hn;rw[hn]at hl|-;have HL:=hdd hl;have hlI:(n:Int)<=300:=by omega
 clear hT hv hc hx hR hn hl;go_enter Tryz.func8,Tryz.ntmps8
 go_wp2_with fail
 go_loopw [11] (fun i wr=>∃m:Nat,m<=n/\i=.int .i64 (m:Int)/\Hid ((∀x∈l.take m,qA x=true)/\Below w.heap.size w wr)) (fun i _=>((n:Int)-intOf i).toNat)
 case atStart=>exact⟨0,bdT _,rfl,hdd ⟨fun x hx=>by simp at hx,Below.refl _ _⟩⟩
 case round=>
  obtain⟨m,hm,rfl,HG⟩:=hrel;rcases bdC m n with hlt|hge
  . obtain⟨x,hx⟩:∃x,l[m]? =some x:=⟨_,bdA (by rw[HN.out];exact hlt)⟩
    obtain⟨hall,hbl⟩:=HG.out;obtain⟨b,u,rfl,ca,cb,hI⟩:=HC.out m x hx;replace ca:=cbl ca hbl;replace cb:=cbl cb hbl;obtain⟨p',c',rfl,-⟩:=id hI;have hmI:(m:Int)<(n:Int):=bdQ.2 hlt;have hm0:(0:Int)<=(m:Int):=bdE _;obtain⟨wa,hwa,hba,hsa,ba⟩:=pro1 wr (.cells #[.string x.1,.slice p' x.2.length c'] 27);obtain⟨y0,y1,-,-⟩:=aB ba;have HB:=hdd (aA hbl hba);have HF:=hdd (jH (s:=x.1) (w:=wa) (hI.below (aA hbl hba)) (by have:=HX.out x (bc9 hx);omega));have HLT:=hdd (And.intro hlt (And.intro hx hall));obtain⟨F,hF⟩:∃F,dE x.1 x.2=F:=⟨_,rfl⟩;have HFE:=hdd hF;rw[hF]at HF;clear hlt hx hall hbl hI hba hsa ba HG hm hF;rcases F with _|_
    . obtain rfl:Sum.inr 6=R:=(HBAD.out m x HLT.out.2.1 HFE.out).symm
      go_wp2_with fail
      refine HF.out.mono ?_;rintro e wb⟨rfl,hbb⟩;have HBB:=hdd (aA HB.out hbb);clear hbb;go_wp2_with fail
      refine(HSC _).out.mono ?_;rintro e we⟨rfl,hw⟩;obtain rfl:=hw;go_wp2
      go_ret2
      exact⟨HBB.out,rfl⟩
    . go_wp2_with fail
      refine HF.out.mono ?_;rintro e wb⟨rfl,hbb⟩;have HNX:Hid ((∀x∈l.take (m+1),qA x=true)/\Below w.heap.size w wb):=hdd ⟨fun z hz=>by
       rw[bdF,HLT.out.2.1]at hz;rcases List.mem_append.1 hz with hz|hz
       . exact HLT.out.2.2 z hz
       . obtain rfl:z=x:=by simpa using hz
         exact HFE.out,aA HB.out hbb⟩
      clear hbb hwa y0 y1;go_wp2_with fail
      go_roundw
      case rel=>exact⟨m+1,HLT.out.1,by go_num,HNX⟩
      case measure=>exact fE HLT.out.1
  . obtain rfl:m=n:=bdJ hm hge
    obtain⟨hall,hbl⟩:=HG.out;rw[bc8 (by rw[HN.out];exact bdH _)]at hall;have HA:=hdd hall;have HB:=hdd hbl;clear hall hbl HG hm hge HBAD;rcases bdC 200 m with h2|h2
    . have h2I:(200:Int)<(m:Int):=by omega
      have hR:Sum.inr 7=R:=by
       rw[<-HRE.out];unfold kX;rw[if_pos (bdI.2 HA.out),if_pos (by rw[HN.out];exact h2)]
      subst hR;clear h2;go_wp2_with fail
      refine(HLM _).out.mono ?_;rintro e we⟨rfl,hw⟩;obtain rfl:=hw;go_wp2
      go_ret2
      exact⟨HB.out,rfl⟩
    . obtain⟨wm,rfl⟩:∃wm,wm=wr:=⟨wr,rfl⟩
      have h2I:¬(200:Int)<(m:Int):=by omega
      have hR:Sum.inl (jI l)=R:=by
       rw[<-HRE.out];unfold kX;rw[if_pos (bdI.2 HA.out),if_neg (by rw[HN.out];omega)]
      subst hR;have H2:=hdd h2;obtain⟨wB,hwB,hbB,hsB,bB⟩:=pro1 wm (.cells #[.pointer none,.slice none 0 0] 48);have HBD:Hid (BdT wm.heap.size wm.heap.size (jI (l.take 0)) wB/\Below wm.heap.size wm wB):=hdd ⟨by rw[<-hwB];exact aoN,hbB⟩;clear h2 hbB hsB bB;have HTL:Hid (∀q,(jI (l.take q)).length<=14200):=hdd fun q=>by
       have h1:=akN (l:=l.take q) fun x hx=>HA.out x (List.mem_of_mem_take hx);have h2:(l.take q).length<=200:=by have:=H2.out;have:=HN.out;rw[List.length_take];omega
       omega
      have HWB:=hdd (fun(w':World) (h:Below wm.heap.size wm w')=>aA HB.out h);go_wp2_with fail
      go_loopw [26] (fun i wq=>∃q:Nat,q<=m/\i=.int .i64 (q:Int)/\Hid (BdT wm.heap.size wm.heap.size (jI (l.take q)) wq/\Below wm.heap.size wm wq)) (fun i _=>((m:Int)-intOf i).toNat)
      case atStart=>exact⟨0,bdT _,rfl,HBD⟩
      case round=>
       obtain⟨q,hq,rfl,HG⟩:=hrel;clear HBD;rcases bdC q m with hlt|hge
       . obtain⟨x,hx⟩:∃x,l[q]? =some x:=⟨_,bdA (by rw[HN.out];exact hlt)⟩
         obtain⟨hbd,hbl⟩:=HG.out;have hbw:=HWB.out _ hbl;obtain⟨b,u,rfl,ca,cb,hI⟩:=HC.out q x hx;replace ca:=cbl ca hbw;replace cb:=cbl cb hbw;obtain⟨p',c',rfl,-⟩:=id hI;have hmI:(q:Int)<(m:Int):=bdQ.2 hlt;have hm0:(0:Int)<=(q:Int):=bdE _;obtain⟨wa,hwa,hba,hsa,ba⟩:=pro1 wr (.cells #[.string x.1,.slice p' x.2.length c'] 27);obtain⟨y0,y1,-,-⟩:=aB ba;have hfx:=HA.out x (bc9 hx);obtain⟨f1,f2,f3,f4,-⟩:=kY hfx;have hjl:=qB hfx;have HJ:=hdd (abX (w:=wa) (HT.out.low (aA hbw hba)) f2 (hI.below (aA hbw hba)) (by omega) (by omega) fun k hk=>aoP (f1 k hk));have HLT:=hdd (And.intro hlt hx);have HJL:=hdd hjl;have HBA:=hdd (And.intro (BdT.below hbd hba) (aA hbl hba));obtain⟨J,hJ⟩:∃J,joinL x.1 x.2=J:=⟨_,rfl⟩;have HJE:=hdd hJ;rw[hJ]at HJ HJL;clear hlt hx hbd hbl hbw hI hba hsa ba hfx f1 f2 f3 f4 hjl HG hq hJ;go_wp2_with fail
         refine HJ.out.mono ?_;rintro e wb⟨rfl,hbb⟩;have HBB:=hdd (And.intro (BdT.below HBA.out.1 hbb) (aA HBA.out.2 hbb));clear hbb;go_wp2_with fail
         refine(aoM HBB.out.1 (by have:=HTL.out q;have:=HJL.out;show _+J.toArray.size<=_;rw[List.size_toArray];omega)).mono ?_;rintro e wc⟨rfl,hbd,hbc⟩;have HBC:=hdd (And.intro hbd (HBB.out.2.trans hbc));clear hbd hbc;go_wp2_with fail
         refine(amU HBC.out.1 (by have:=HTL.out q;have:=HJL.out;simp;omega)).mono ?_;rintro e wd⟨rfl,hbd,hbc⟩;have HNX:Hid (BdT wm.heap.size wm.heap.size (jI (l.take (q+1))) wd/\Below wm.heap.size wm wd):=hdd ⟨by rw[ag1 HLT.out.2,HJE.out];simpa using hbd,HBC.out.2.trans hbc⟩;clear hbd hbc hwa y0 y1;go_wp2_with fail
         go_roundw
         case rel=>exact⟨q+1,HLT.out.1,by go_num,HNX⟩
         case measure=>exact fE HLT.out.1
       . obtain rfl:q=m:=bdJ hq hge
         obtain⟨hbd,hbl⟩:=HG.out;have htl:=HTL.out l.length;rw[bc8 nlr]at htl;rw[bc8 (by rw[HN.out];exact bdH _)]at hbd;have HD:=hdd hbd;have HBL:=hdd hbl;have HLE:=hdd (Tryz.Builder_Len _ _ _ _ hbd);obtain⟨TL,hTL⟩:∃TL,(jI l).length=TL:=⟨_,rfl⟩;rw[Lib.byteCells_length,hTL]at HLE;rw[hTL]at htl;have htI:¬(20000:Int)<(TL:Int):=by omega
         clear hbd hbl HG hq hge htl hTL;go_wp2_with fail
         refine HLE.out.mono ?_;rintro e wb⟨rfl,hw⟩;obtain rfl:=hw.symm;go_wp2_with fail
         refine(Tryz.Builder_String_any _ _ _ _ HD.out HBL.out.size).mono ?_;rintro e wc⟨rfl,hbc⟩;have HFIN:=hdd (HWB.out _ (HBL.out.trans hbc));clear hbc;go_wp2
         go_ret2
         exact⟨HFIN.out,rfl⟩
section
variable{P:Program}{ops:Array Oper}{Q:Exit->Act->World->Prop}{S:World->Prop}{z:Nat}
def zQ(ops:Array Oper)(z:Nat):Array Bool->List (Nat×Value)->Bool
 |_,[]=>true
 |ls,(i,_)::l=>(match ops[i]? with|some o=>o.guard.isNone|none=>false)&&Region.waitsFor .any ops z i&&Region.free .any ops ls i&&(Region.ready .any ops ls).contains i&&zQ ops z (ls.setIfInBounds i true) l
def vO:Array Bool->List (Nat×Value)->Array Bool
 |ls,[]=>ls
 |ls,(i,_)::l=>vO (ls.setIfInBounds i true) l
def vP(ops:Array Oper):Act->List (Nat×Value)->Act
 |a,[]=>a
 |a,(i,v)::l=>vP ops (a.put ((ops[i]?).bind (·.dst)) v) l
def vQ(P:Program)(ops:Array Oper)(w:World):Act->List (Nat×Value)->Prop
 |_,[]=>True
 |a,(i,v)::l=>(match ops[i]? with|some o=>(execOp a.eval o).run P w=.ok (.value v) w|none=>False)/\vQ P ops w (a.put ((ops[i]?).bind (·.dst)) v) l
theorem vR(l:List (Nat×Value)):∀{F:Nat} {listed:Array Bool} {a:Act} {w:World},Region.noSelect ops=true->Nat.ble l.length F=true->zQ ops z listed l=true->(∀w,S w->vQ P ops w a l)->S w->
 anyG P .any ops (NoPanic Q) S z (F-l.length) (vO listed l) (vP ops a l) w->anyG P .any ops (NoPanic Q) S z F listed a w:=by
 induction l with
 |nil=>intro F listed a w _ _ _ _ _ h;exact h
 |cons p l ih=>
  intro F listed a w hs hF hk hy hS h;obtain⟨i,v⟩:=p;obtain⟨f,rfl⟩:∃f,F=f+1:=⟨F-1,by have:=bdL hF;simp only[bc7]at this;omega⟩;simp only[zQ,bdD]at hk;obtain⟨⟨⟨⟨k1,k2⟩,k3⟩,k4⟩,k5⟩:=hk;simp only[vQ]at hy;simp only[vO,vP,bc7]at h
  cases ho:ops[i]? with
  |none=>rw[ho]at k1;cases k1
  |some o=>
   rw[ho]at k1 hy h;refine aO i v ho k2 hs k3 k4 (fun _ _ _ h=>h) ?_ (fun w hw=>(hy w hw).1) hS ?_
   . have k1':o.guard.isNone=true:=k1
     unfold Region.wanted
     cases hg:o.guard with
     |none=>rfl
     |some x=>rw[hg]at k1';cases k1'
   . refine ih hs (Nat.ble_eq_true_of_le (by have:=bdL hF;simp only[bc7]at this;omega)) k5 (fun w hw=>(hy w hw).2) hS ?_
     rw[Nat.add_sub_add_right]at h;exact h
end
theorem akO(a K m:Nat)(h:K<=m):a/2^K/2^(m-K)=a/2^m:=by
 rw[Nat.div_div_eq_div_mul,<-bdU,bdN h]
theorem amZ(hx:NatP p w va xs):
 Calls Tryz.prog 257 #[va,.int .i64 16777216] w (fun e w'=>∃K:Nat,(K:Int)=16777216/\RetN w.heap.size w (val xs/2^K) e w'):=
 (aeM (n:=16777216) hx nlr).mono fun _ _ h=>⟨16777216,rfl,h⟩
theorem jJ{n:Nat}(hx:NatP p w va xs)(hn:n<=9223372036854775807):
 Calls Tryz.prog 201 #[va,.int .i64 n] w (RetN w.heap.size w (val xs/2^n)):=by
 have HX:=hdd hx.any;clear hx;go_enter Tryz.func201,Tryz.ntmps201
 go_wp2_with fail
 go_loopw [0,1] (fun sv i wr=>∃(m:Nat) (ys:List Nat),m<=n/\i=.int .i64 m/\Hid (NatP AnyB wr sv ys)/\Hid (Below w.heap.size w wr)/\Hid (val ys/2^m=val xs/2^n)) (fun _ i _=>(intOf i).toNat)
 case atStart=>exact⟨n,xs,bdH _,rfl,HX,hdd (Below.refl _ _),hdd rfl⟩
 case round=>
  obtain⟨m,ys,hm,rfl,HY,HB,HV⟩:=hrel;rcases bdC 16777216 m with h|h
  . have hi:(16777216:Int)<(m:Int):=by omega
    go_wp2_with fail
    refine(amZ HY.out).mono ?_;rintro e w1⟨K,hK,hb,v1,zs,rfl,hz,tz,hvz⟩;have HZ:=hdd hz.any;have HB2:=hdd (HB.out.trans (hb.mono HB.out.size));have HV2:Hid (val zs/2^(m-K)=val xs/2^n):=hdd (by
     rw[hvz,<-HV.out];exact akO _ _ _ (by omega))
    have hsub:(m:Int)-16777216=((m-K:Nat):Int):=by omega
    clear hb hz tz hvz;go_wp2
    go_roundw
    case rel=>exact⟨m-K,zs,by omega,by go_num,HZ,HB2,HV2⟩
    case measure=>simp[intOf];omega
  . have hi:¬(16777216:Int)<(m:Int):=by omega
    go_wp2_with fail
    refine(aeM HY.out h).mono ?_;rintro e w1⟨hb,v1,zs,rfl,hz,tz,hvz⟩;have HF:=hdd (RetN.of (n:=val xs/2^n) (HB.out.trans (hb.mono HB.out.size)) (hz.weak fun b h _=>bdR HB.out.size h) tz (by rw[hvz,HV.out]));clear hb hz tz hvz;go_wp2;go_ret;exact HF.out
theorem am0(hx:NatP p w va xs)(hL:xs.length<1073741824):
 Calls Tryz.prog 256 #[va,.int .i64 16777216] w (fun e w'=>∃K:Nat,(K:Int)=16777216/\RetN w.heap.size w (val xs*2^K) e w'):=
 (aeL (n:=16777216) hx nlr hL).mono fun _ _ h=>⟨16777216,rfl,h⟩
theorem akP(a K m:Nat)(h:K<=m):a*2^K*2^(m-K)=a*2^m:=by
 rw[Nat.mul_assoc,<-bdU,bdN h]
theorem akQ(xs zs:List Nat)(m n:Nat)(hx:OkL xs)(hz:OkL zs)(tz:Tr zs)(h:val zs*2^m=val xs*2^n):64*zs.length<=64*xs.length+n+63:=by
 have h1:=bD zs hz tz;have h2:bits (val zs)<=64*xs.length+n:=by
  rw[aF];have h3:val zs<=val zs*2^m:=Nat.le_mul_of_pos_right _ (bdV m);have h4:val xs<2^(64*xs.length):=by
   have:=bH xs hx;rwa[show B64=2^64 from rfl,<-Nat.pow_mul]at this
  have h5:val xs*2^n<2^(64*xs.length)*2^n:=Nat.mul_lt_mul_of_pos_right h4 (bdV n);rw[bdU];omega
 omega
theorem gY{n:Nat}(hx:NatP p w va xs)(hn:n<=134217728)(hL:xs.length<=1000000000):
 Calls Tryz.prog 259 #[va,.int .i64 n] w (RetN w.heap.size w (val xs*2^n)):=by
 have HX:=hdd hx.any;have HO:=hdd hx.ok;clear hx;have h0:¬(n:Int)<0:=by omega
 have h1:¬(134217728:Int)<(n:Int):=by omega
 go_enter Tryz.func259,Tryz.ntmps259
 go_wp2_with fail
 go_loopw [0,1] (fun sv i wr=>∃(m:Nat) (ys:List Nat),m<=n/\64*ys.length<=64*xs.length+n+63/\i=.int .i64 m/\Hid (NatP AnyB wr sv ys)/\Hid (Below w.heap.size w wr)/\Hid (val ys*2^m=val xs*2^n)) (fun _ i _=>(intOf i).toNat)
 case atStart=>exact⟨n,xs,bdH _,by omega,rfl,HX,hdd (Below.refl _ _),hdd rfl⟩
 case round=>
  obtain⟨m,ys,hm,hl,rfl,HY,HB,HV⟩:=hrel;rcases bdC 16777216 m with h|h
  . have hi:(16777216:Int)<(m:Int):=by omega
    go_wp2_with fail
    refine(am0 HY.out (by omega)).mono ?_;rintro e w1⟨K,hK,hb,v1,zs,rfl,hz,tz,hvz⟩;have HZ:=hdd hz.any;have HB2:=hdd (HB.out.trans (hb.mono HB.out.size));have HV2:Hid (val zs*2^(m-K)=val xs*2^n):=hdd (by rw[hvz,<-HV.out];exact akP _ _ _ (by omega));have hl2:=akQ xs zs _ n HO.out hz.ok tz HV2.out;have hsub:(m:Int)-16777216=((m-K:Nat):Int):=by omega
    clear hb hz tz hvz;go_wp2
    go_roundw
    case rel=>exact⟨m-K,zs,by omega,hl2,by go_num,HZ,HB2,HV2⟩
    case measure=>simp[intOf];omega
  . have hi:¬(16777216:Int)<(m:Int):=by omega
    go_wp2_with fail
    refine(aeL HY.out h (by omega)).mono ?_;rintro e w1⟨hb,v1,zs,rfl,hz,tz,hvz⟩;have HF:=hdd (RetN.of (n:=val xs*2^n) (HB.out.trans (hb.mono HB.out.size)) (hz.weak fun b h _=>bdR HB.out.size h) tz (by rw[hvz,HV.out]));clear hb hz tz hvz;go_wp2;go_ret;exact HF.out
structure Dy where
 man:Int
 exp:Int
deriving DecidableEq
def DyP(p:Nat->Prop)(w:World)(v:Value)(d:Dy):Prop:=
 ∃b A n c,v=.agg #[.bool b,.slice A n c,.int .i64 d.exp]/\IntP p w (.agg #[.bool b,.slice A n c]) d.man
def RetD(B:Nat)(w0:World)(d:Dy)(e:Ending)(w':World):Prop:=
 Below B w0 w'/\∃v,e=.returned v/\DyP (fun b=>B<=b) w' v d
def mkDy(man exp:Int):Dy:=if man=0 then⟨0,0⟩else⟨sg (decide (man<0)) (man.natAbs/2^ctz man.natAbs),exp+ctz man.natAbs⟩
theorem DyP.below {d:Dy}(h:DyP p w v d)(hb:Below w.heap.size w w'):DyP p w' v d:=by
 obtain⟨b,A,n,c,e,h⟩:=h;exact⟨b,A,n,c,e,h.below hb⟩
theorem cells3(h:w.heap[g]? =some (.cells #[a,b,c] T (0,0))):
 w.cell? ⟨g,0,none⟩=some a/\w.cell? ⟨g,1,none⟩=some b/\w.cell? ⟨g,2,none⟩=some c/\w.frozen? ⟨g,0,none⟩=false/\w.frozen? ⟨g,1,none⟩=false/\w.frozen? ⟨g,2,none⟩=false:=by
 refine⟨?_,?_,?_,?_,?_,?_⟩<;>simp[World.cell?,World.frozen?,h]
theorem set3(h:w.heap[g]? =some (.cells #[a,b,c] T (0,0)))(u v x:Value):
 (((w.setCell ⟨g,0,none⟩ u).setCell ⟨g,1,none⟩ v).setCell ⟨g,2,none⟩ x).heap[g]? =some (.cells #[u,v,x] T (0,0)):=by
 have hg:g<w.heap.size:=(Array.getElem?_eq_some_iff.1 h).1;have h':w.heap[g]=.cells #[a,b,c] T (0,0):=(Array.getElem?_eq_some_iff.1 h).2;simp[World.setCell,hg,Array.getElem_modify,h']
theorem aK{B:Nat}{w0 w1:World}{u vm:Value}{z:Int}{d:Dy}{q:Nat->Prop}(hb:Below B w0 w1)(hg:B<=g)(hw:w1.heap[g]? =some (.cells #[a,b,c] T (0,0)))
 (h:DyP q w1 (.agg #[u,vm,.int .i64 z]) d) (hq:∀b,q b->B<=b/\b≠g):
 Hid (RetD B w0 d (.returned (.agg #[u,vm,.int .i64 z])) (((w1.setCell ⟨g,0,none⟩ u).setCell ⟨g,1,none⟩ vm).setCell ⟨g,2,none⟩ (.int .i64 z)))/\
 (((w1.setCell ⟨g,0,none⟩ u).setCell ⟨g,1,none⟩ vm).setCell ⟨g,2,none⟩ (.int .i64 z)).heap[g]? =some (.cells #[u,vm,.int .i64 z] T (0,0)):=by
 obtain⟨b',A,n,c',e,h⟩:=h;refine⟨hdd ⟨((hb.setCell hg _).setCell hg _).setCell hg _,_,rfl,b',A,n,c',e,?_⟩,set3 hw u vm _⟩;exact(((h.setCell (fun b hb=>(hq b hb).2) _).setCell (fun b hb=>(hq b hb).2) _).setCell (fun b hb=>(hq b hb).2) _).weak fun b hb _=>(hq b hb).1
end
section
open Int renaming natCast_mul->bdX,mul_assoc->bdZ,mul_eq_zero->bd2,zero_mul->bd4,neg_mul->bd5
open Nat renaming two_pow_pos->bdW,le_mul_of_pos_right->bdY,pow_succ->bd0,pow_add->bd1,mul_comm->bd3
variable{j k:Nat}
theorem rA(n:Nat)(h:n≠0):∃k m,n=2^k*(2*m+1)/\ctz n=k:=by
 suffices∀b n,n<2^b->n≠0->∃k m,n=2^k*(2*m+1) by
  obtain⟨k,m,e⟩:=this n n Nat.lt_two_pow_self h;exact⟨k,m,e,by rw[e];exact yQ k m⟩
 intro b
 induction b with
 |zero=>intro n h1 h2;omega
 |succ b ih=>
  intro n h1 h2;rcases Nat.mod_two_eq_zero_or_one n with h3|h3
  . obtain⟨k,m,e⟩:=ih (n/2) (by rw[bd0]at h1;omega) (by omega)
    refine⟨k+1,m,?_⟩;rw[bd0,bd3 (2^k) 2,Nat.mul_assoc,<-e];omega
  . exact⟨0,n/2,by simp;omega⟩
theorem rZ(n:Nat)(h:n≠0):ctz n<=bits n:=by
 obtain⟨k,m,e,hk⟩:=rA n h;rw[hk];rcases Nat.lt_or_ge (bits n) k with h1|h1
 . have h2:=(aF n (bits n)).1 nlr
   have h3:2^bits n<=2^k:=Nat.pow_le_pow_right (by omega) (by omega);have h4:2^k<=n:=by rw[e];exact bdY _ (by omega)
   omega
 . exact h1
theorem kZ(b:Bool)(m n:Nat):sg b (m*n)=sg b m*(n:Int):=by cases b<;>simp[sg,bd5]
theorem gZ(x e:Int)(hx:x≠0):∃k:Nat,x=(mkDy x e).man*(2^k:Nat)/\(mkDy x e).exp=e+k/\(mkDy x e).man%2=1/\k<=bits x.natAbs:=by
 obtain⟨k,m,e1,hk⟩:=rA x.natAbs (by omega);have hm:(mkDy x e).man=sg (decide (x<0)) (2*m+1):=by
  unfold mkDy;rw[if_neg hx,hk];show sg _ (x.natAbs/2^k)=_;rw[e1,Nat.mul_div_cancel_left _ (bdW k)]
 refine⟨k,?_,?_,?_,?_⟩
 . rw[hm,<-kZ,bd3,<-e1]
   exact(lL x).symm
 . unfold mkDy;rw[if_neg hx,hk]
 . rw[hm];cases decide (x<0)<;>simp[sg]<;>omega
 . have:=rZ x.natAbs (by omega);omega
theorem aT(e:Int):mkDy 0 e=⟨0,0⟩:=by unfold mkDy;simp
theorem vS{a b:Int}(ha:a%2=1)(hb:b%2=1)(h:a*(2^j:Nat)=b*(2^k:Nat)):a=b/\j=k:=by
 suffices∀j k:Nat,∀a b:Int,a%2=1->b%2=1->j<=k->a*(2^j:Nat)=b*(2^k:Nat)->a=b/\j=k by
  rcases Nat.le_total j k with hjk|hjk
  . exact this j k a b ha hb hjk h
  . obtain⟨e1,e2⟩:=this k j b a hb ha hjk h.symm
    exact⟨e1.symm,e2.symm⟩
 intro j k a b ha hb hjk h;obtain⟨d,rfl⟩:∃d,k=j+d:=⟨k-j,by omega⟩;rw[bd1,bdX,Int.mul_comm ((2^j:Nat):Int),<-bdZ]at h;have hp:((2^j:Nat):Int)≠0:=by have:=bdW j;omega
 have h2:=Int.eq_of_mul_eq_mul_right hp h;rcases d with _|d
 . exact⟨by simpa using h2,rfl⟩
 . exfalso
   rw[bd0,bdX,<-bdZ]at h2;omega
theorem tK{x y e f:Int}(h:x*(2^j:Nat)=y*(2^k:Nat))(he:e-j=f-k):mkDy x e=mkDy y f:=by
 have pj:=bdW j;have pk:=bdW k;by_cases hx:x=0
 . have hy:y=0:=by
    rw[hx,bd4]at h;rcases bd2.1 h.symm with h|h
    . exact h
    . omega
   rw[hx,hy,aT,aT]
 . have hy:y≠0:=by
    intro hy;rw[hy,bd4]at h;rcases bd2.1 h with h|h
    . exact hx h
    . omega
   obtain⟨a,a1,a2,a3,-⟩:=gZ x e hx;obtain⟨b,b1,b2,b3,-⟩:=gZ y f hy;have h2:(mkDy x e).man*(2^(a+j):Nat)=(mkDy y f).man*(2^(b+k):Nat):=by
    rw[bd1,bd1,bdX,bdX,<-bdZ,<-bdZ,<-a1,<-b1];exact h
   obtain⟨h3,h4⟩:=vS a3 b3 h2;have h5:(mkDy x e).exp=(mkDy y f).exp:=by rw[a2,b2];omega
   cases hd:mkDy x e;cases hd2:mkDy y f
   rw[hd,hd2]at h3 h5;simp at h3 h5;rw[h3,h5]
theorem akR(x e:Int)(k:Nat):mkDy (x*(2^k:Nat)) (e-k)=mkDy x e:=
 tK (j:=0) (k:=k) (by simp) (by omega)
theorem nP(x e:Int):mkDy (mkDy x e).man (mkDy x e).exp=mkDy x e:=by
 by_cases hx:x=0
 . rw[hx,aT,aT]
 . obtain⟨k,k1,k2,k3,-⟩:=gZ x e hx
   exact tK (j:=k) (k:=0) (by simpa using k1.symm) (by omega)
def dG(a b:Dy):Int:=if a.exp<=b.exp then a.man else a.man*(2^(a.exp-b.exp).toNat:Nat)
def dH(a b:Dy):Int:=if a.exp<=b.exp then b.man*(2^(b.exp-a.exp).toNat:Nat)else b.man
def addD(a b:Dy):Dy:=if a.man=0 then mkDy b.man b.exp else if b.man=0 then mkDy a.man a.exp else mkDy (dG a b+dH a b) (min a.exp b.exp)
def mulD(a b:Dy):Dy:=mkDy (a.man*b.man) (a.exp+b.exp)
def notD(a:Dy):Dy:=mkDy (-a.man) a.exp
def topD(a:Dy):Int:=if a.man=0 then 0 else bits a.man.natAbs+a.exp
def cmpD(a b:Dy):Int:=cmpI (dG a b) (dH a b)
theorem iB(a b:Dy):dG a b=a.man*(2^(a.exp-min a.exp b.exp).toNat:Nat):=by
 unfold dG;split
 . have:(a.exp-min a.exp b.exp).toNat=0:=by omega
   rw[this];simp
 . have:min a.exp b.exp=b.exp:=by omega
   rw[this]
theorem iC(a b:Dy):dH a b=b.man*(2^(b.exp-min a.exp b.exp).toNat:Nat):=by
 unfold dH;split
 . have:min a.exp b.exp=a.exp:=by omega
   rw[this]
 . have:(b.exp-min a.exp b.exp).toNat=0:=by omega
   rw[this];simp
theorem iG(x e:Int):mkDy x e=⟨0,0⟩/\x=0\/x≠0/\(mkDy x e).man≠0/\e<=(mkDy x e).exp/\x=(mkDy x e).man*(2^((mkDy x e).exp-e).toNat:Nat):=by
 by_cases hx:x=0
 . exact Or.inl ⟨by rw[hx,aT],hx⟩
 . obtain⟨k,k1,k2,k3,-⟩:=gZ x e hx
   refine Or.inr ⟨hx,by omega,by omega,?_⟩;have:((mkDy x e).exp-e).toNat=k:=by omega
   rw[this];exact k1
theorem ae6(x e:Int):notD (mkDy x e)=mkDy (-x) e:=by
 unfold notD;rcases iG x e with ⟨h1,h2⟩|⟨h1,h2,h3,h4⟩
 . rw[h1,h2];simp[aT]
 . generalize mkDy x e=a at*
   refine tK (j:=(a.exp-e).toNat) (k:=0) ?_ (by omega);rw[bd5,<-h4];simp
theorem am1(x e:Int):(mkDy x e).man.sign=x.sign:=by
 rcases iG x e with ⟨h1,h2⟩|⟨h1,h2,h3,h4⟩
 . rw[h1,h2]
 . generalize mkDy x e=a at*
   have:=bdW (a.exp-e).toNat;rw[h4,Int.sign_mul,Int.sign_eq_one_of_pos (a:=((2^(a.exp-e).toNat:Nat):Int)) (by omega),Int.mul_one]
theorem qC(x e:Int):bits (mkDy x e).man.natAbs<=bits x.natAbs:=by
 rcases iG x e with ⟨h1,h2⟩|⟨h1,h2,h3,h4⟩
 . rw[h1];exact Nat.zero_le _
 . generalize mkDy x e=a at*
   refine bZ ?_
   conv=>rhs;rw[h4]
   rw[Int.natAbs_mul,Int.natAbs_natCast];exact bdY _ (bdW _)
end
end Go.Proofs.YtigoiiekebccnaaGreatDoor
