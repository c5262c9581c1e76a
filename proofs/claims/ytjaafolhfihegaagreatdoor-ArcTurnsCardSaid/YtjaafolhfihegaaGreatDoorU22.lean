/- A part of the proof: contracts of functions and plain laws (TuA, FnA, SymD, FnC, SpE, SnA, SnB, LiA). -/
import Derived.Test.YtjaafolhfihegaaGreatDoorU18
import Derived.Test.YtjaafolhfihegaaGreatDoorU17
import Derived.Test.YtjaafolhfihegaaGreatDoorU21
import Derived.Deep.Cut
import Derived.Deep.DeepCutAuto
set_option linter.unusedVariables false
set_option linter.unusedSimpArgs false
set_option maxHeartbeats 25600000
set_option maxRecDepth 100000
namespace Go.Proofs.YtjaafolhfihegaaGreatDoor
open Go.RowKit Go.Maps Go.Stop Go.Extern
open Go.Value renaming ownBlock->bdT,oneCell'->bdU
open Option.some renaming inj->bdS,injEq->bdV
variable{b:Nat}{w:World}
abbrev arcW(g:Nat)(kd:Int)(wa wb wc i j k l:Nat):Value:=.agg #[.int .i64 kd,.float .f64 wa,.float .f64 wb,.float .f64 wc,.pointer (some ⟨g,0,none⟩),.int .i64 (i:Int),.pointer (some ⟨g,0,none⟩),.int .i64 (j:Int),.pointer (some ⟨g,0,none⟩),.int .i64 (k:Int),.pointer (some ⟨g,0,none⟩),.int .i64 (l:Int)]
theorem rD:Calls Tryz.prog 50 #[] w (fun e w'=>e=.returned (.iface 135 (.int .i64 4))/\w=w'):=by
 go_enter Tryz.func50,Tryz.ntmps50
 go_wp2;go_ret;exact⟨rfl,rfl⟩
theorem jI:Calls Tryz.prog 50 #[] w (RetV w (.iface 135 (.int .i64 4))):=by
 go_enter Tryz.func50,Tryz.ntmps50
 go_wp2;go_ret;exact⟨rfl,Below.refl _ _⟩
theorem yD{a c:Nat}(ha:a<18446744073709551616)(hb:b<18446744073709551616)(hc:c<18446744073709551616)(h:¬mE a b c):Calls Tryz.prog 53 #[curV 1 a b c] w (RetEr w 5):=by
 obtain⟨w1,hw1,hb1,hs1,b1⟩:=pro1 w (curO 1 a b c);obtain⟨c0,c1,c2,c3⟩:=aL b1;have HB:=hdd hb1;have HL:=hdd (akK (w:=w1) ha hb hc h);clear h hb1 hs1 b1 ha hb hc;go_enter Tryz.func53,Tryz.ntmps53
 go_wp2_with fail
 refine HL.out.mono ?_;rintro e w2 hr;obtain⟨er,n,rfl,-⟩:=id hr;have HR:=hdd hr;clear hr;go_wp2;go_ret;exact HR.out.up HB.out
theorem aaT{T:TypeId}{cs:Array Value}(h:w.heap[b]? =some (.cells cs T (0,0)))(k:Nat):w.frozen? ⟨b,k,none⟩=false:=by simp[World.frozen?,h]
def aoE(w:World)(e:Ending)(w':World):Prop:=∃t x,e=.returned (.iface t x)/\Below w.heap.size w w'
theorem wV:Tryz.prog.underlying 178=some (.slice 48):=by kernel_rfl
theorem akZ:(Tryz.prog.info? 48).map (fun i=>(i.zero,i.size,i.bytes))=some (some (.nilIface),1,16):=by kernel_rfl
theorem ak0{t1 t2:TypeId}{x1 x2:Value}(c0:w.cell? ⟨b,0,none⟩=some (.iface t1 x1))(c1:w.cell? ⟨b,1,none⟩=some (.iface t2 x2)):
 Calls Tryz.prog 91 #[.slice (some ⟨b,0,none⟩) 2 2] w (aoE w):=by
 have hbl:b<w.heap.size:=World.block_lt_of_cell? w _ c0;obtain⟨i0,hi0,hz0,hz1,hz2⟩:=info_parts akZ;obtain⟨w2,hrun,hown,hgr⟩:=run_make_own (P:=Tryz.prog) w w.heap.size 178 48 i0 .nilIface 1 wV hi0 hz0 hz1 .i64 .i64 2 (by rw[hz2];omega) (by unfold maxLen;omega) nlr;have hb2:Below w.heap.size w w2:=⟨hgr.os,hgr.tape,hgr.output,hgr.size,fun b hb=>hgr.block b hb (by simp)⟩;have hrun':(Instr.makeSlice 178 (.int .i64 0) (.int .i64 2)).run Tryz.prog w=.ok (.slice (some ⟨w.heap.size,0,none⟩) 0 2) w2:=by simpa using hrun
 have hs2:w.heap.size<w2.heap.size:=by
  rcases hown.2 with ⟨h,-⟩|⟨g,_,_,h,-,h2,-⟩
  . simp at h
  . simp only[Value.slice.injEq,bdV,Addr.mk.injEq]at h
    obtain⟨⟨rfl,-⟩,-⟩:=h;exact aG h2
 obtain⟨w3,hw3,hb3,hs3,b3⟩:=pro1 w2 (.cells #[.slice (some ⟨w.heap.size,0,none⟩) 0 2] 182);obtain⟨w4,hw4,hb4,hs4,b4⟩:=pro1 w3 (.cells #[.iface t1 x1] 48);have e0:=aA (k:=0) (v:=.slice (some ⟨w.heap.size,0,none⟩) 0 2) b3 rfl;have d0:=cell_below (cbl c0 hb2) hb3 nlr;have d1:=cell_below (cbl c1 hb2) hb3 nlr;have f0:=cbl e0 hb4;have F1:=hdd (cbl d1 hb4);have HO4:=hdd ((hown.kept (aX (row:=none) hb3) (Or.inr (by simp[bdT]))).kept (aX (row:=none) hb4) (Or.inr (by simp[bdT])));have HC4:=hdd (gH b4);have HI0:=hdd hi0;have HZ0:=hdd hz0;have HZ1:=hdd hz1;have HZ2:=hdd hz2;have HB4:=hdd (aC (aC hb2 hb3) hb4);have HS4:Hid (w.heap.size<=w4.heap.size):=hdd HB4.out.size;have G4:=hdd (aH b3 hb4 (aG b3));have zz:=aaT G4.out;have HL2:Hid (w.heap.size<w2.heap.size/\w2.heap.size<w4.heap.size/\b<w.heap.size):=hdd ⟨hs2,by have:=aG b3;have:=hb4.size;omega,hbl⟩;clear hown hgr hb2 hrun hs2 hb3 hs3 b3 hb4 hs4 b4 hi0 hz0 hz1 hz2 f0 zz hbl
 go_enter Tryz.func91,Tryz.ntmps91
 go_wp2_with fail
 refine wp_loop_rounds 3 ?_;rw[rounds_succ];go_wp2_with fail
 rw[rounds_succ];go_wp2_with fail
 rw[rounds_succ];go_wp2_with fail
 refine wp_loop_rounds 3 ?_;rw[rounds_succ];go_wp2_with (first
  |(at_builtin
    go_loud (
    refine wpList_append_lies _ rfl _ _ 178 rfl w.heap.size 48 i0 .nilIface 1 16 wV HI0.out HZ0.out HZ1.out HZ2.out rfl (by decide) _ 0 [] rfl HO4.out ⟨w3.heap.size,0,none⟩ 1 1 [.iface t1 x1] rfl rfl HC4.out (by simp[bdU]) (by decide) (by unfold maxLen;omega) (by omega) HS4.out w4.heap.size rfl ?_;intro r cap w5 hown5 hgrow5 hat5 hlt5;have HO5:=hdd hown5;have HG5:=hdd hgrow5;have HA5:=hdd hat5;have G5:=hdd ((hgrow5.block w2.heap.size HL2.out.2.1 (fun e=>absurd (show some w2.heap.size=some w.heap.size from e) (fun k=>by have h1:=HL2.out.1;have h2:=bdS k;omega))).trans G4.out);have zz:=aaT G5.out;have g0:=aA (k:=0) (v:=.slice (some ⟨w.heap.size,0,none⟩) 0 2) G5.out rfl;clear hown5 hgrow5 hat5 hlt5)))
 have HB5:=hdd (HB4.out.trans (Below.of_grown HG5.out HS4.out (by simp[bdT])));have D5:Hid (w5.cell? ⟨b,1,none⟩=some (.iface t2 x2)):=hdd (cbl c1 HB5.out);have hr:r≠w2.heap.size:=by
  have h1:=HL2.out;rcases HA5.out with h|h
  . have h2:w.heap.size=r:=bdS h;omega
  . omega
 obtain⟨w6,hw6⟩:∃v,w5.setCell ⟨w2.heap.size,0,none⟩ (.slice (some ⟨r,0,none⟩) 1 cap)=v:=⟨_,rfl⟩;have g6:=grownBy_set (kP w5 (some w2.heap.size)) (i:=0) (.slice (some ⟨r,0,none⟩) 1 cap);have s6:=mF (cs:=[.slice (some ⟨w.heap.size,0,none⟩) 0 2]) (k:=0) (v:=.slice (some ⟨r,0,none⟩) 1 cap) G5.out;rw[hw6]at g6 s6;have HR:Hid (w.heap.size<=r):=hdd (by
  rcases HA5.out with h|h
  . have h2:w.heap.size=r:=bdS h;omega
  . have:=HL2.out;omega)
 have HO6:=hdd (HO5.out.kept g6 (Or.inr (fun e=>hr (bdS e))));have HB6:=hdd (HB5.out.trans (Below.of_grown g6 HB5.out.size (Nat.le_of_lt HL2.out.1)));have G6:=hdd s6;simp only[hw6];have c6:=cbl c1 HB6.out;have g0:=aA (k:=0) (v:=.slice (some ⟨r,0,none⟩) 1 cap) G6.out rfl;obtain⟨w7,hw7,hb7,hs7,b7⟩:=pro1 w6 (.cells #[.iface t2 x2] 48);have HO7:=hdd (HO6.out.kept (aX (row:=none) hb7) (Or.inr (by simp[bdT])));have HC7:=hdd (gH b7);have HS7:Hid (w.heap.size<=w7.heap.size):=hdd (aC HB6.out hb7).size;have G7:=hdd (aH G6.out hb7 (aG G6.out));have HB7:=hdd (aC HB6.out hb7);have HL7:Hid (w2.heap.size<w7.heap.size):=hdd (aG G7.out);clear g6 s6 hw6 hb7 hs7 b7 HG5 HA5 G5 HB5 D5 HB4 G4 HC4 HO4 F1 d0 d1 hrun' c0 c1 HO5 HO6 zz;rw[rounds_succ];go_wp2_with (first
  |(at_builtin
    go_loud (
    refine wpList_append_lies _ rfl _ _ 178 rfl w.heap.size 48 i0 .nilIface 1 16 wV HI0.out HZ0.out HZ1.out HZ2.out rfl (by decide) _ 1 [.iface t1 x1] rfl HO7.out ⟨w6.heap.size,0,none⟩ 1 1 [.iface t2 x2] rfl rfl HC7.out (by simp[bdU]) (by decide) (by unfold maxLen;omega) (by omega) HS7.out w7.heap.size rfl ?_;intro r2 cap2 w8 hown8 hgrow8 hat8 hlt8;have HG8:=hdd hgrow8;have G8:=hdd ((hgrow8.block w2.heap.size HL7.out (fun e=>hr (bdS (show some w2.heap.size=some r from e)).symm)).trans G7.out);have zz:=aaT G8.out;have g8:=aA (k:=0) (v:=.slice (some ⟨r,0,none⟩) 1 cap) G8.out rfl;clear hown8 hgrow8 hat8 hlt8)))
 have HB8:=hdd (HB7.out.trans (Below.of_grown HG8.out HS7.out (HR.out)));obtain⟨w9,hw9⟩:∃v,w8.setCell ⟨w2.heap.size,0,none⟩ (.slice (some ⟨r2,0,none⟩) 2 cap2)=v:=⟨_,rfl⟩;have g9:=grownBy_set (kP w8 (some w2.heap.size)) (i:=0) (.slice (some ⟨r2,0,none⟩) 2 cap2);rw[hw9]at g9;have HB9:=hdd (HB8.out.trans (Below.of_grown g9 HB8.out.size (Nat.le_of_lt HL2.out.1)));simp only[hw9];clear hw9 g9 HB8 HG8 G8 zz g8;rw[rounds_succ];go_wp2;go_ret;exact⟨_,_,rfl,HB9.out⟩
theorem acI{t:TypeId}{x:Value}:Calls Tryz.prog 54 #[.iface t x] w (aoE w):=by
 obtain⟨w1,hw1,hb1,hs1,b1⟩:=pro1 w (.cells #[.iface 135 (.int .i64 4),.iface t x] 48);have HJ:=hdd (ak0 (w:=w1) (aA (k:=0) (v:=.iface 135 (.int .i64 4)) b1 rfl) (aA (k:=1) (v:=.iface t x) b1 rfl));have HB:=hdd hb1;have HI:Hid (∀w',Calls Tryz.prog 50 #[] w' (fun e w2=>e=.returned (.iface 135 (.int .i64 4))/\w'=w2)):=hdd fun w'=>rD;clear hb1 hs1 b1;go_enter Tryz.func54,Tryz.ntmps54
 go_wp2_with fail
 refine(HI.out _).mono ?_;rintro e w2⟨rfl,rfl⟩;go_wp2_with fail
 refine HJ.out.mono ?_;rintro e w3⟨t2,x2,rfl,hb3⟩;have HB3:=hdd (aC HB.out hb3);clear hb3;go_wp2;go_ret;exact⟨_,_,rfl,HB3.out⟩
end Go.Proofs.YtjaafolhfihegaaGreatDoor
namespace Go.Proofs.YtjaafolhfihegaaGreatDoor
open Go.RowKit Go.Maps
open List renaming setIfInBounds_toArray->bdW,map_cons->bdX,map_nil->bdY,set->bdZ,mem_append->bd0,mem_cons->bd1,zip_cons_cons->bd2,all_eq_true->bd3,mem_map->bd4
variable{X Y:Ex}{ca cb cc:Nat}
def RtN(s:Bs)(g N:Nat)(K:List (Ex×Nat))(l:List (Nat×Obj))(V:List Nat->Value)(es:List Ex)(e:Ending)(W':World):Prop:=
 ∃ks:List Nat,ks.length=es.length/\e=.returned (V ks)/\Run s g N (es.zip ks++K) l W'
def FnOk(f:FuncId)(g d:Nat)(av:Array Value)(K0:List (Ex×Nat))(V:List Nat->Value)(es:List Ex):Prop:=
 ∀(s:Bs) (N:Nat) (K:List (Ex×Nat)) (l:List (Nat×Obj)) (W:World),Run s g N K l W->N+d<=20000->(∀p∈K0,p∈K)->Calls Tryz.prog f av W (RtN s g (N+d) K l V es)
def pK(w:World)(B:Nat)(ns:List Nd)(g N:Nat)(V:List Nat->Value)(es:List Ex)(e:Ending)(W':World):Prop:=
 ∃ks:List Nat,ks.length=es.length/\e=.returned (V ks)/\∃l',Run ⟨w,B,ns⟩ g N (es.zip ks) l' W'
section
variable{f:FuncId}{g d:Nat}{av:Array Value}{K0:List (Ex×Nat)}{V:List Nat->Value}{es:List Ex}
theorem FnOk.of (h:∀w B ns N,Run ⟨w,B,ns⟩ g N K0 [] w->N+d<=20000->Calls Tryz.prog f av w (pK w B ns g (N+d) V es)):FnOk f g d av K0 V es:=by
 intro s N K l W hR hN hK;obtain⟨ns',hs,hI⟩:=hR;refine(h W s.B ns' N (Run.enter hs.st (fun p hp=>hI p (hK p hp))) hN).mono ?_;rintro e W'⟨ks,h1,rfl,l',ns'',hs2,hI2⟩;refine⟨ks,h1,rfl,ns'',hs.step hs2.st hs2.pre hs2.grew.2.2,fun p hp=> ?_⟩;rcases bd0.1 hp with hp|hp
 . exact hI2 p hp
 . exact(hI p hp).mono hs2.pre
theorem fP{α:Type}{K K':List α}(ix:List Nat)(h:K'=ix.filterMap (K[·]?):=by rfl):∀p∈K',p∈K:=fun p hp=>by
 rw[h]at hp;obtain⟨j,-,h2⟩:=List.mem_filterMap.1 hp;exact List.mem_of_getElem? h2
end
def letters:List Nat->List Nat->(Nat->Nat)->Nat->Nat
 |t::ts,k::ks,ν,n=>if n=t then k else letters ts ks ν n
 |_,_,ν,n=>ν n
theorem sZ:∀(ts ks:List Nat) (ν:Nat->Nat) (n:Nat),n∉ts->letters ts ks ν n=ν n
 |[],_,_,_,_=>rfl
 |_::_,[],_,_,_=>rfl
 |t::ts,k::ks,ν,n,h=>by
  rw[bd1]at h;show(if n=t then k else letters ts ks ν n)=ν n;rw[if_neg (fun e=>h (Or.inl e)),sZ ts ks ν n (fun e=>h (Or.inr e))]
theorem tC:∀(ts ks:List Nat) (ν:Nat->Nat),ts.Nodup->ks.length=ts.length->ts.map (letters ts ks ν)=ks
 |[],[],_,_,_=>rfl
 |[],_::_,_,_,h=>by simp at h
 |_::_,[],_,_,h=>by simp at h
 |t::ts,k::ks,ν,hn,h=>by
  rw[List.nodup_cons]at hn;have e:ts.map (letters (t::ts) (k::ks) ν)=ts.map (letters ts ks ν):=List.map_congr_left fun n hm=>by
   show(if n=t then k else letters ts ks ν n)=_;rw[if_neg (fun e=>hn.1 (by rw[<-e];exact hm))]
  rw[bdX,e,tC ts ks ν hn.2 (by simpa using h)];show(if t=t then k else _)::ks=k::ks;rw[if_pos rfl]
theorem tF{α:Type}{h:Nat->Nat}{q:Nat×α}:∀{ts:List Nat} {es:List α},q∈ts.zip es->(q.2,h q.1)∈es.zip (ts.map h)
 |[],_,hq=>by simp at hq
 |_::_,[],hq=>by simp at hq
 |t::ts,e::es,hq=>by
  rw[bd2,bd1]at hq;rw[bdX,bd2,bd1];rcases hq with rfl|hq
  . exact Or.inl rfl
  . exact Or.inr (tF hq)
section
variable{S:Spec Ex}{w0:Bs}{g c0 i d:Nat}{f:FuncId}{args:(Nat->Nat)->Array Value}{ix ts:List Nat}{V:List Nat->Value}{es:List Ex}
theorem retL{lst:Nat->Bool}{ν:Nat->Nat}{c:Nat}{l:List (Nat×Obj)}{w':World}{ks:List Nat}(ht:(ts.all fun t=>S.cr t==some i)=true)(hn:ts.Nodup)(hk:S.made i=ts.zip es)(h1:ks.length=ts.length)(hR:Run w0 g c (es.zip ks++S.K lst ν) l w'):
 ∃ν',(∀n,S.cr n≠some i->ν' n=ν n)/\ts.map ν'=ks/\Run w0 g c (S.newK i ν'++S.K lst ν) l w':=by
 have hm:=tC ts ks ν hn h1;refine⟨letters ts ks ν,fun n h=>sZ ts ks ν n fun hin=>h (by have:=bd3.1 ht n hin;simpa using this),hm,hR.few fun p hp=> ?_⟩;rcases bd0.1 hp with h|h
 . obtain⟨q,h2,rfl⟩:=qZ h
   rw[hk]at h2;have:=tF (h:=letters ts ks ν) h2;rw[hm]at this;exact bd0.2 (Or.inl this)
 . exact bd0.2 (Or.inr h)
theorem c_fn(hM:c0+S.total<=20000)(F:∀ν,FnOk f g d (args ν) ((ix.map fun j=>S.know.getD j (0,.leaf 0)).map fun q=>(q.2,ν q.1)) V es)
 (hix:(ix.all fun j=>decide (j<S.know.length)&&S.pre i (S.know.getD j (0,.leaf 0)).1)=true:=by kernel_rfl) (hc:S.cost i=d:=by rfl) (hv:∀ν,(S.val i).den ν=V (ts.map ν):=by intro _;rfl)
 (ht:(ts.all fun t=>S.cr t==some i)=true:=by kernel_rfl) (hk:S.made i=ts.zip es:=by rfl) (hn:ts.Nodup:=by decide) (hl:ts.length=es.length:=by rfl):iM S w0 g c0 i f args:=by
 intro lst ν c w hD hcl hG;rw[hc]at hcl;refine(F ν w0 c _ _ w hG (by omega) fun p hp=> ?_).mono ?_
 . obtain⟨q,h1,rfl⟩:=bd4.1 hp
   obtain⟨j,h2,rfl⟩:=bd4.1 h1;have h3:=bd3.1 hix j h2;rw[Bool.and_eq_true,decide_eq_true_eq]at h3;refine jH ?_ (pre_on h3.2 hD);rw[List.getD_eq_getElem?_getD,List.getElem?_eq_getElem h3.1];exact List.getElem_mem h3.1
 . rintro e w'⟨ks,k1,rfl,hR⟩
   obtain⟨ν',a1,a2,a3⟩:=retL ht hn hk (by omega) hR;exact⟨ν',a1,by rw[hv,a2],by rw[hc];exact a3⟩
end
section
variable{E:Type}{S:Spec E}{W:Wk E}{P:Program}{Q:Exit->Act->World->Prop}{c0:Nat}{a0:Act}{ν0:Nat->Nat}{i:Nat}{o:Oper}
end
section
variable{f:FuncId}{g d:Nat}{av:Array Value}{K0:List (Ex×Nat)}{V:List Nat->Nat->Value}{es:List Ex}{O:List Nat->Obj}
end
section
variable{S:Spec Ex}{w0:Bs}{g c0 i d:Nat}{f:FuncId}{args:(Nat->Nat)->Array Value}{ix ts:List Nat}{V:List Nat->Nat->Value}{es:List Ex}{O:List Nat->Obj}{B:Blk}
end
section
variable{s:Bs}{W:World}{g N i j k i' j' k':Nat}{K:List (Ex×Nat)}{l:List (Nat×Obj)}{x px py qx qy rx ry:Ex}{q:Int}
end
section
variable{S:Spec Ex}{w0:Bs}{g c0:Nat}{i:Nat}(hM:c0+S.total<=20000){m n m' n' m2 n2 t:Nat}{x y x' y' x2 y2:Ex}{q:Int}(hx:(m,x)∈S.know)(hy:(n,y)∈S.know)(px:S.pre i m=true)(py:S.pre i n=true)
include hM hx px
include hy py
variable(hx':(m',x')∈S.know)(hy':(n',y')∈S.know)(px':S.pre i m'=true)(py':S.pre i n'=true)
include hx' hy' px' py'
end
abbrev arcC(g a b c i j k l:Nat):List SC:=curC 2 a b c++bF g i j++bF g k l
abbrev pM(g i j k l:Nat):List SC:=bF g i j++bF g k l
abbrev arcV(g a b c i j k l:Nat):Value:=.agg #[.int .i64 2,.float .f64 a,.float .f64 b,.float .f64 c,.pointer (some ⟨g,0,none⟩),.int .i64 ((i:Nat):Int),.pointer (some ⟨g,0,none⟩),.int .i64 ((j:Nat):Int),.pointer (some ⟨g,0,none⟩),.int .i64 ((k:Nat):Int),.pointer (some ⟨g,0,none⟩),.int .i64 ((l:Nat):Int)]
section
variable{g a b c i j k l i' j' k' l' i'' j'' k'' l'':Nat}{ν:Nat->Nat}
theorem dA12:(SW.agg (arcC g a b c i j k l)).den ν=arcV g a b c (ν i) (ν j) (ν k) (ν l):=rfl
theorem dP8:(SW.agg (pM g i j k l)).den ν=.agg #[.pointer (some ⟨g,0,none⟩),.int .i64 ((ν i:Nat):Int),.pointer (some ⟨g,0,none⟩),.int .i64 ((ν j:Nat):Int),.pointer (some ⟨g,0,none⟩),.int .i64 ((ν k:Nat):Int),.pointer (some ⟨g,0,none⟩),.int .i64 ((ν l:Nat):Int)]:=rfl
theorem dP24:(SW.agg (pM g i j k l++pM g i' j' k' l'++pM g i'' j'' k'' l'')).den ν=.agg #[.pointer (some ⟨g,0,none⟩),.int .i64 ((ν i:Nat):Int),.pointer (some ⟨g,0,none⟩),.int .i64 ((ν j:Nat):Int),.pointer (some ⟨g,0,none⟩),.int .i64 ((ν k:Nat):Int),.pointer (some ⟨g,0,none⟩),.int .i64 ((ν l:Nat):Int),.pointer (some ⟨g,0,none⟩),.int .i64 ((ν i':Nat):Int),.pointer (some ⟨g,0,none⟩),.int .i64 ((ν j':Nat):Int),.pointer (some ⟨g,0,none⟩),.int .i64 ((ν k':Nat):Int),.pointer (some ⟨g,0,none⟩),.int .i64 ((ν l':Nat):Int),.pointer (some ⟨g,0,none⟩),.int .i64 ((ν i'':Nat):Int),.pointer (some ⟨g,0,none⟩),.int .i64 ((ν j'':Nat):Int),.pointer (some ⟨g,0,none⟩),.int .i64 ((ν k'':Nat):Int),.pointer (some ⟨g,0,none⟩),.int .i64 ((ν l'':Nat):Int)]:=rfl
end
abbrev wW(a b c:Nat)(x y:Ex):Ex:=.sub (.add (.mul (.sub x (.leaf a)) (.sub x (.leaf a))) (.mul (.sub y (.leaf b)) (.sub y (.leaf b)))) (.leaf c)
theorem ak1{g i j:Nat}(h1:wP ca cb cc):FnOk 92 g 9 #[.pointer (some ⟨g,0,none⟩),curV 2 ca cb cc,eO g i j] [(X,i),(Y,j)] (fun ks=>numV g (ks.getD 0 0)) [wW ca cb cc X Y]:=FnOk.of fun w B ns N hR hN=>by
 have R1:=hdd hR;clear hR;go_enter Tryz.func92,Tryz.ntmps92
 go_upto_region 0 with fail
 refine Spec.go [.w (.c (.ptr 2 0)),.w (.c (.ptr 3 0)),.w (.c (.ptr 4 0))] [0,1,2]
  [(0,X),(1,Y)] [⟨2,29,curC 2 ca cb cc,none⟩,⟨3,33,bF g 0 1,none⟩,⟨4,31,[.v (.pointer none),.v (.int .i64 0)],none⟩]
  [0,0,0] [[],[],[]] [(1,.w (.agg ([.v (.int .i64 2),.v (.float .f64 ca),.v (.float .f64 cb),.v (.float .f64 cc)]))),(2,dA g 0 1)]
  [5,6,7] [i,j] 3 N [] [] R1.out
  (fun b hM=>aB (aB (aB aN
    (bC b m0))
    (bC b m1))
    (bC b m2)) ?_
 intro b1 b2 b3 ν W2 hR;have R2:=hdd hR;clear hR R1;simp only[putL,bdW,bdZ,fs0,fs1,fsn,dSw,dSt,dWc,dWa,dv,di,dp,ds',bdX,bdY,nuTn,nuT0,nuT1,nuU0,nuU1]
 go_upto_region 1 with fail
 refine Spec.go [.w (.c (.ptr 3 0)),numS g 0,.w (.c (.v (.pointer (some ⟨g,0,none⟩)))),.w (.c (.ptr 2 1)),.w (.c (.v (.float .f64 ca))),numS g 5,numS g 6,.w (.c (.ptr 7 0)),noS] [5,6,7]
  [(0,X),(1,Y),(5,(.leaf ca)),(6,(.sub X (.leaf ca)))] [⟨2,29,curC 2 ca cb cc,none⟩,⟨3,33,bF g 0 1,none⟩,⟨4,31,[.v (.pointer none),.v (.int .i64 0)],none⟩,⟨7,31,[.v (.pointer none),.v (.int .i64 0)],some (8,numC g 6)⟩]
  [0,0,0,0,0,1,1,0,0] [[],[0],[],[],[3],[2,3,4],rgn 6,[],rgn 8] [(5,.w (.c (.ptr 3 0))),(0,.w (.c (.v (.pointer (some ⟨g,0,none⟩))))),(4,.w (.c (.ptr 2 0)))]
  [10,11,12,13,14,15,16,8,0] [i,j,b1,b2,b3] 9 (N+2) [] [] R2.out
  (fun b hM=>aB (aB (aB (aB (aB (aB (aB (aB (aB aN
    (aF b))
    (aY b 2 m1))
    (aF b))
    (aF b))
    (oL b m0))
    (bD b (c_of hM h1.1.1 h1.1.2 rfl rfl rfl rfl)))
    (bD b (afP hM m0 m2 rfl rfl rfl rfl rfl rfl)))
    (bC b m3))
    (dD b 2 m3)) ?_
 intro n4 n5 b6 ν W3 hR;have R3:=hdd hR;clear hR R2;simp only[putL,bdW,bdZ,fs0,fs1,fsn,dSw,dSt,dWc,dWa,dv,di,dp,ds',bdX,bdY,nuTn,nuT0,nuT1,nuU0,nuU1]
 go_upto_region 2 with fail
 refine Spec.go [.w (.c (.ptr 3 2)),numS g 1,.w (.c (.v (.pointer (some ⟨g,0,none⟩)))),.w (.c (.ptr 2 2)),.w (.c (.v (.float .f64 cb))),numS g 7,numS g 8,.w (.c (.ptr 9 0)),noS] [5,6,7]
  [(0,X),(1,Y),(5,(.sub X (.leaf ca))),(7,(.leaf cb)),(8,(.sub Y (.leaf cb)))] [⟨2,29,curC 2 ca cb cc,none⟩,⟨3,33,bF g 0 1,none⟩,⟨4,31,[.v (.pointer none),.v (.int .i64 0)],none⟩,⟨6,31,numC g 5,none⟩,⟨9,31,[.v (.pointer none),.v (.int .i64 0)],some (8,numC g 8)⟩]
  [0,0,0,0,0,1,1,0,0] [[],[0],[],[],[3],[2,3,4],rgn 6,[],rgn 8] [(5,.w (.c (.ptr 3 0))),(0,.w (.c (.v (.pointer (some ⟨g,0,none⟩))))),(4,.w (.c (.ptr 2 0)))]
  [17,18,19,20,21,22,23,9,0] [i,j,b1,b2,b3,n5,b6] 9 (N+4) [true,true,false] [] R3.out
  (fun b hM=>aB (aB (aB (aB (aB (aB (aB (aB (aB aN
    (aF b))
    (aY b 2 m1))
    (aF b))
    (aF b))
    (oL b m0))
    (bD b (c_of hM h1.2.1.1 h1.2.1.2 rfl rfl rfl rfl)))
    (bD b (afP hM m1 m3 rfl rfl rfl rfl rfl rfl)))
    (bC b m4))
    (dD b 2 m4)) ?_
 intro n7 n8 b9 ν W4 hR;have R4:=hdd hR;clear hR R3;simp only[putL,bdW,bdZ,fs0,fs1,fsn,dSw,dSt,dWc,dWa,dv,di,dp,ds',bdX,bdY,nuTn,nuT0,nuT1,nuU0,nuU1]
 go_upto_region 3 with fail
 refine Spec.go [numS g 2,numS g 2,.w (.c (.sl 6 1)),numS g 7,numS g 4,numS g 4,.w (.c (.sl 8 1)),numS g 9,.w (.c (.sl 10 1)),numS g 11,.w (.c (.v (.pointer (some ⟨g,0,none⟩)))),.w (.c (.ptr 0 3)),.w (.c (.v (.float .f64 cc))),numS g 12,numS g 13,noS] [2,3,6,7,8,9,13,14]
  [(2,(.sub X (.leaf ca))),(4,(.sub Y (.leaf cb))),(7,(.mul (.sub X (.leaf ca)) (.sub X (.leaf ca)))),(9,(.mul (.sub Y (.leaf cb)) (.sub Y (.leaf cb)))),(11,(.add (.mul (.sub X (.leaf ca)) (.sub X (.leaf ca))) (.mul (.sub Y (.leaf cb)) (.sub Y (.leaf cb))))),(12,(.leaf cc)),(13,(.sub (.add (.mul (.sub X (.leaf ca)) (.sub X (.leaf ca))) (.mul (.sub Y (.leaf cb)) (.sub Y (.leaf cb)))) (.leaf cc)))] [⟨0,29,curC 2 ca cb cc,none⟩,⟨1,31,[.v (.pointer none),.v (.int .i64 0)],some (15,numC g 13)⟩,⟨3,31,numC g 2,none⟩,⟨5,31,numC g 4,none⟩,⟨6,31,numC g 2,none⟩,⟨8,31,numC g 4,none⟩,⟨10,31,numC g 9,none⟩]
  [0,0,0,1,0,0,0,1,0,1,0,0,0,1,1,0] [[],[],[1],[0,1,2],[],[],[5],[4,5,6],[4,5,6,7],rgn 9,[],[],[11],[10,11,12],rgn 14,rgn 15] [(7,.w (.c (.ptr 3 0))),(8,.w (.c (.ptr 5 0))),(0,.w (.c (.v (.pointer (some ⟨g,0,none⟩))))),(4,.w (.c (.ptr 0 0))),(6,.w (.c (.ptr 1 0)))]
  [24,25,26,27,28,29,30,31,32,33,34,35,36,37,38,0] [b1,b3,n5,b6,n8,b9] 16 (N+9) [false,false,true,false] [true,false] R4.out
  (fun b hM=>aB (aB (aB (aB (aB (aB (aB (aB (aB (aB (aB (aB (aB (aB (aB (aB aN
    (aY b 2 m2))
    (aY b 2 m2))
    (oM b m4))
    (bD b (afQ hM m0 m0 rfl rfl m4 rfl rfl rfl rfl rfl rfl rfl rfl)))
    (aY b 2 m3))
    (aY b 2 m3))
    (oM b m5))
    (bD b (afQ hM m1 m1 rfl rfl m5 rfl rfl rfl rfl rfl rfl rfl rfl)))
    (oM b m6))
    (bD b (aoD hM m2 m3 rfl rfl m6 rfl rfl rfl rfl rfl rfl rfl rfl)))
    (aF b))
    (aF b))
    (oL b m0))
    (bD b (c_of hM h1.2.2.1.1 h1.2.2.1.2 rfl rfl rfl rfl)))
    (bD b (afP hM m4 m5 rfl rfl rfl rfl rfl rfl)))
    (dD b 2 m1)) ?_
 intro b10 n11 b12 n13 b14 n15 n16 n17 ν W5 hR;replace hR:Run ⟨w,B,ns⟩ g (N+9) [((.sub X (.leaf ca)),n5),((.sub Y (.leaf cb)),n8),((.mul (.sub X (.leaf ca)) (.sub X (.leaf ca))),n11),((.mul (.sub Y (.leaf cb)) (.sub Y (.leaf cb))),n13),((.add (.mul (.sub X (.leaf ca)) (.sub X (.leaf ca))) (.mul (.sub Y (.leaf cb)) (.sub Y (.leaf cb)))),n15),((.leaf cc),n16),((.sub (.add (.mul (.sub X (.leaf ca)) (.sub X (.leaf ca))) (.mul (.sub Y (.leaf cb)) (.sub Y (.leaf cb)))) (.leaf cc)),n17)] [(b1,.cells #[(.int .i64 2),(.float .f64 ca),(.float .f64 cb),(.float .f64 cc)] 29),(b3,numO g n17),(b6,numO g n5),(b9,numO g n8),(b10,numO g n5),(b12,numO g n8),(b14,numO g n13)] W5:=hR;have R5:=hdd hR;clear hR R4;simp only[putL,bdW,bdZ,fs0,fs1,fsn,dSw,dSt,dWc,dWa,dv,di,dp,ds',bdX,bdY,nuTn,nuT0,nuT1,nuU0,nuU1];go_wp2;obtain⟨x0,x1,-,-⟩:=aD (R5.out.at m1);refine bodyPost_ret (v:=.agg #[_,_]) (by simp[results,Tryz.results92,go_sem,x0,x1];first|exact⟨rfl,rfl⟩|rfl) rfl ?_
 exact⟨[n17],rfl,rfl,_,R5.out.few (fP [6])⟩
theorem aoF{g i j:Nat}{q:Int}(h1:wP ca cb cc)(s3:gQ PT (wW ca cb cc X Y) q):FnOk 55 g 9 #[.pointer (some ⟨g,0,none⟩),curV 2 ca cb cc,eO g i j] [(X,i),(Y,j)] (fun ks=>.tuple #[.int .i64 q,.nilIface]) []:=FnOk.of fun w B ns N hR hN=>by
 have R1:=hdd hR;clear hR;go_enter Tryz.func55,Tryz.ntmps55
 go_upto_region 0 with fail
 refine Spec.go [.w (.c (.ptr 2 0)),.w (.c (.ptr 3 0)),.w (.c (.v (Value.int IntKind.i64 0))),.w (.c (.v Value.nilIface))] [0,1]
  [(0,X),(1,Y)] [⟨2,29,curC 2 ca cb cc,none⟩,⟨3,33,bF g 0 1,none⟩]
  [0,0,0,0] [[],[],[],[]] [(1,.w (.agg ([.v (.int .i64 2),.v (.float .f64 ca),.v (.float .f64 cb),.v (.float .f64 cc)]))),(2,dA g 0 1)]
  [5,6,7,8] [i,j] 4 N [] [] R1.out
  (fun b hM=>aB (aB (aB (aB aN
    (bC b m0))
    (bC b m1))
    (aF b))
    (aF b)) ?_
 intro b1 b2 ν W2 hR;have R2:=hdd hR;clear hR R1;simp only[putL,bdW,bdZ,fs0,fs1,fsn,dSw,dSt,dWc,dWa,dv,di,dp,ds',bdX,bdY,nuTn,nuT0,nuT1,nuU0,nuU1,dA12,dP8,dP24]
 go_upto_region 1 with fail
 refine Spec.go [.w (.agg ([.v (.int .i64 2),.v (.float .f64 ca),.v (.float .f64 cb),.v (.float .f64 cc)])),.w (.c (.v .nilIface)),.w (.c (.v .nilIface))] []
  [(0,X),(1,Y)] [⟨2,29,curC 2 ca cb cc,none⟩,⟨3,33,bF g 0 1,none⟩]
  [0,0,0] [[],[0],[0,1]] [(4,.w (.c (.ptr 2 0)))]
  [10,11,9] [i,j,b1,b2] 3 N [] [] R2.out
  (fun b hM=>aB (aB (aB aN
    (aY b 4 m0))
    (bD b (mH hM rfl rfl rfl (fun w=>zI h1))))
    (aF b)) ?_
 intro ν W3 hR;replace hR:Run ⟨w,B,ns⟩ g N [(X,i),(Y,j)] [(b1,.cells #[(.int .i64 2),(.float .f64 ca),(.float .f64 cb),(.float .f64 cc)] 29),(b2,iL g i j)] W3:=hR;have R3:=hdd hR;clear hR R2;simp only[putL,bdW,bdZ,fs0,fs1,fsn,dSw,dSt,dWc,dWa,dv,di,dp,ds',bdX,bdY,nuTn,nuT0,nuT1,nuU0,nuU1,dA12,dP8,dP24];have k0:=aA (k:=0) (v:=.int .i64 2) (R3.out.at m0) rfl
 go_upto_region 6 with fail
 clear k0;refine Spec.go [.w (.c (.v (.pointer (some ⟨g,0,none⟩)))),.w (.agg ([.v (.int .i64 2),.v (.float .f64 ca),.v (.float .f64 cb),.v (.float .f64 cc)])),dA g 0 1,numS g 4,.tup [.c (.v (.int .i64 q)),.c (.v .nilIface)],.w (.c (.v (.int .i64 q))),.w (.c (.v .nilIface)),.w (.c (.v (.int .i64 q))),.w (.c (.v .nilIface))] [3]
  [(0,X),(1,Y),(4,(wW ca cb cc X Y))] [⟨2,29,curC 2 ca cb cc,none⟩,⟨3,33,bF g 0 1,none⟩]
  [0,0,0,9,0,0,0,0,0] [[],[],[],[0,1,2],rgn 4,rgn 5,rgn 5,rgn 6,[0,1,2,3,4,6]] [(0,.w (.c (.v (.pointer (some ⟨g,0,none⟩))))),(4,.w (.c (.ptr 2 0))),(5,.w (.c (.ptr 3 0)))]
  [25,26,27,28,29,30,31,7,8] [i,j,b1,b2] 9 (N+9) [] [] R3.out
  (fun b hM=>aB (aB (aB (aB (aB (aB (aB (aB (aB aN
    (aF b))
    (aY b 4 m0))
    (aY b 4 m1))
    (bD b (c_fn (ix:=[0,1]) (ts:=[4]) hM (fun ν=>ak1 h1))))
    (bD b (akV hM m2 rfl rfl rfl rfl s3)))
    (aF b))
    (aF b))
    (aF b))
    (aF b)) ?_
 intro n3 ν W4 hR;replace hR:Run ⟨w,B,ns⟩ g (N+9) [(X,i),(Y,j),((wW ca cb cc X Y),n3)] [(b1,.cells #[(.int .i64 2),(.float .f64 ca),(.float .f64 cb),(.float .f64 cc)] 29),(b2,iL g i j)] W4:=hR;have R4:=hdd hR;clear hR R3;simp only[putL,bdW,bdZ,fs0,fs1,fsn,dSw,dSt,dWc,dWa,dv,di,dp,ds',bdX,bdY,nuTn,nuT0,nuT1,nuU0,nuU1,dA12,dP8,dP24];have HF:Hid (pK w B ns g (N+9) (fun _=>.tuple #[.int .i64 q,.nilIface]) [] (.returned (.tuple #[.int .i64 q,.nilIface])) W4):=hdd ⟨[],rfl,rfl,_,(R4.out.more (by omega)).few (fP [])⟩;clear R4;go_wp2
 go_ret2
 exact HF.out
abbrev wX(x y:Ex)(a b c:Nat):Ex:=.sub (.add (.mul (.leaf a) x) (.mul (.leaf b) y)) (.leaf c)
theorem aeI{g i j:Nat}(hca:FlOk ca)(hcb:FlOk cb)(hcc:FlOk cc):FnOk 25 g 7 #[.pointer (some ⟨g,0,none⟩),curV 1 ca cb cc,eO g i j] [(X,i),(Y,j)] (fun ks=>numV g (ks.getD 0 0)) [wX X Y ca cb cc]:=FnOk.of fun w B ns N hR hN=>by
 have R1:=hdd hR;clear hR;go_enter Tryz.func25,Tryz.ntmps25
 go_upto_region 0 with fail
 refine Spec.run (S:=⟨_,fun i=>([.w (.c (.ptr 2 0)),.w (.c (.ptr 3 0)),.w (.c (.ptr 4 0))]:List SV).getD i noS,fun n=>([none,none,some 0,some 1,some 2]:List (Option Nat)).getD n none,
  [(0,X),(1,Y)],[⟨2,29,[.v (.int .i64 1),.v (.float .f64 ca),.v (.float .f64 cb),.v (.float .f64 cc)],none⟩,⟨3,33,bF g 0 1,none⟩,⟨4,31,[.v (.pointer none),.v (.int .i64 0)],none⟩],
  fun i=>([0,0,0]:List Nat).getD i 0,fun i=>([[],[],[]]:List (List Nat)).getD i [],[(1,.w (.agg ([.v (.int .i64 1),.v (.float .f64 ca),.v (.float .f64 cb),.v (.float .f64 cc)]))),(2,dA g 0 1)]⟩)
  (W:=runW ⟨w,B,ns⟩ g) (ν0:=fun n=>([i,j]:List Nat).getD n 0) (c0:=N)
  (fs:=fun ν=>[(4,.pointer (some ⟨(ν 2),0,none⟩)),(5,.pointer (some ⟨(ν 3),0,none⟩)),(6,.pointer (some ⟨(ν 4),0,none⟩))]) 3 N [] []
  ⟨Spec.wf_of (by kernel_rfl),wT (by kernel_rfl),oN ⟨rfl,rfl,trivial⟩⟩ R1.out (Run.nodup R1.out) (by omega)
  (fun b hM=>aB (aB (aB aN
    (bC b m0))
    (bC b m1))
    (bC b m2)) ?_
 intro ν W2 hν hR;replace hR:Run ⟨w,B,ns⟩ g N [(X,ν 0),(Y,ν 1)] [((ν 2),.cells #[(.int .i64 1),(.float .f64 ca),(.float .f64 cb),(.float .f64 cc)] 29),((ν 3),iL g (ν 0) (ν 1)),((ν 4),.cells #[.pointer none,.int .i64 0] 31)] W2:=hR;have e0:ν 0=i:=hν 0 rfl;have e1:ν 1=j:=hν 1 rfl;simp only[e0,e1]at hR|-;clear hν e0 e1;generalize ν 2=b1 at hR|-;generalize ν 3=b2 at hR|-;generalize ν 4=b3 at hR|-;have R2:=hdd hR;clear hR R1;simp only[putL,bdW,bdZ]
 go_upto_region 1 with fail
 refine Spec.run (S:=⟨_,fun i=>([.w (.c (.v (.pointer (some ⟨g,0,none⟩)))),.w (.c (.ptr 2 1)),.w (.c (.v (.float .f64 ca))),numS g 5,.w (.c (.ptr 3 0)),numS g 0,.w (.c (.sl 6 1)),numS g 7,.w (.c (.ptr 8 0)),noS]:List SV).getD i noS,fun n=>([none,none,none,none,none,some 3,some 6,some 7,some 8]:List (Option Nat)).getD n none,
  [(0,X),(1,Y),(5,(.leaf ca)),(7,(.mul (.leaf ca) X))],[⟨2,29,[.v (.int .i64 1),.v (.float .f64 ca),.v (.float .f64 cb),.v (.float .f64 cc)],none⟩,⟨3,33,bF g 0 1,none⟩,⟨4,31,[.v (.pointer none),.v (.int .i64 0)],none⟩,⟨6,31,numC g 0,none⟩,⟨8,31,[.v (.pointer none),.v (.int .i64 0)],some (9,numC g 7)⟩],
  fun i=>([0,0,0,1,0,0,0,1,0,0]:List Nat).getD i 0,fun i=>([[],[],[1],[0,1,2],[],[4],[4,5],[0,1,2,3,4,5,6],[],[0,1,2,3,4,5,6,7,8]]:List (List Nat)).getD i [],[(0,.w (.c (.v (.pointer (some ⟨g,0,none⟩))))),(4,.w (.c (.ptr 2 0))),(5,.w (.c (.ptr 3 0)))]⟩)
  (W:=runW ⟨w,B,ns⟩ g) (ν0:=fun n=>([i,j,b1,b2,b3]:List Nat).getD n 0) (c0:=N)
  (fs:=fun ν=>[(9,.pointer (some ⟨g,0,none⟩)),(10,.pointer (some ⟨(ν 2),1,none⟩)),(11,(.float .f64 ca)),(12,numV g (ν 5)),(13,.pointer (some ⟨(ν 3),0,none⟩)),(14,numV g (ν 0)),(15,.slice (some ⟨(ν 6),0,none⟩) 1 1),(16,numV g (ν 7)),(7,.pointer (some ⟨(ν 8),0,none⟩))]) 10 (N+2) [] []
  ⟨Spec.wf_of (by kernel_rfl),wT (by kernel_rfl),oN ⟨rfl,rfl,rfl,trivial⟩⟩ R2.out (Run.nodup R2.out) (by omega)
  (fun b hM=>aB (aB (aB (aB (aB (aB (aB (aB (aB (aB aN
    (aF b))
    (aF b))
    (oL b m0))
    (bD b (c_of hM hca.1 hca.2 rfl rfl rfl rfl)))
    (aF b))
    (aY b 2 m1))
    (oM b m3))
    (bD b (afQ hM m2 m0 rfl rfl m3 rfl rfl rfl rfl rfl rfl rfl rfl)))
    (bC b m4))
    (dD b 2 m4)) ?_
 intro ν W3 hν hR;replace hR:Run ⟨w,B,ns⟩ g (N+2) [(X,ν 0),(Y,ν 1),((.leaf ca),ν 5),((.mul (.leaf ca) X),ν 7)] [((ν 2),.cells #[(.int .i64 1),(.float .f64 ca),(.float .f64 cb),(.float .f64 cc)] 29),((ν 3),iL g (ν 0) (ν 1)),((ν 4),.cells #[.pointer none,.int .i64 0] 31),((ν 6),numO g (ν 0)),((ν 8),numO g (ν 7))] W3:=hR;have e0:ν 0=i:=hν 0 rfl;have e1:ν 1=j:=hν 1 rfl;have e2:ν 2=b1:=hν 2 rfl;have e3:ν 3=b2:=hν 3 rfl;have e4:ν 4=b3:=hν 4 rfl;simp only[e0,e1,e2,e3,e4]at hR|-;clear hν e0 e1 e2 e3 e4;generalize ν 5=n4 at hR|-;generalize ν 6=b5 at hR|-;generalize ν 7=n6 at hR|-;generalize ν 8=b7 at hR|-;have R3:=hdd hR;clear hR R2;simp only[putL,bdW,bdZ]
 go_upto_region 2 with fail
 refine Spec.run (S:=⟨_,fun i=>([.w (.c (.v (.pointer (some ⟨g,0,none⟩)))),.w (.c (.ptr 2 2)),.w (.c (.v (.float .f64 cb))),numS g 7,.w (.c (.ptr 3 2)),numS g 1,.w (.c (.sl 8 1)),numS g 9,.w (.c (.ptr 10 0)),noS]:List SV).getD i noS,fun n=>([none,none,none,none,none,none,none,some 3,some 6,some 7,some 8]:List (Option Nat)).getD n none,
  [(0,X),(1,Y),(5,(.mul (.leaf ca) X)),(7,(.leaf cb)),(9,(.mul (.leaf cb) Y))],[⟨2,29,[.v (.int .i64 1),.v (.float .f64 ca),.v (.float .f64 cb),.v (.float .f64 cc)],none⟩,⟨3,33,bF g 0 1,none⟩,⟨4,31,[.v (.pointer none),.v (.int .i64 0)],none⟩,⟨6,31,numC g 5,none⟩,⟨8,31,numC g 1,none⟩,⟨10,31,[.v (.pointer none),.v (.int .i64 0)],some (9,numC g 9)⟩],
  fun i=>([0,0,0,1,0,0,0,1,0,0]:List Nat).getD i 0,fun i=>([[],[],[1],[0,1,2],[],[4],[4,5],[0,1,2,3,4,5,6],[],[0,1,2,3,4,5,6,7,8]]:List (List Nat)).getD i [],[(0,.w (.c (.v (.pointer (some ⟨g,0,none⟩))))),(4,.w (.c (.ptr 2 0))),(5,.w (.c (.ptr 3 0)))]⟩)
  (W:=runW ⟨w,B,ns⟩ g) (ν0:=fun n=>([i,j,b1,b2,b3,n6,b7]:List Nat).getD n 0) (c0:=(N+2))
  (fs:=fun ν=>[(17,.pointer (some ⟨g,0,none⟩)),(18,.pointer (some ⟨(ν 2),2,none⟩)),(19,(.float .f64 cb)),(20,numV g (ν 7)),(21,.pointer (some ⟨(ν 3),2,none⟩)),(22,numV g (ν 1)),(23,.slice (some ⟨(ν 8),0,none⟩) 1 1),(24,numV g (ν 9)),(8,.pointer (some ⟨(ν 10),0,none⟩))]) 10 (N+4) [true,true,false] [true,true,true,false]
  ⟨Spec.wf_of (by kernel_rfl),wT (by kernel_rfl),oN ⟨rfl,rfl,rfl,trivial⟩⟩ R3.out (Run.nodup R3.out) (by omega)
  (fun b hM=>aB (aB (aB (aB (aB (aB (aB (aB (aB (aB aN
    (aF b))
    (aF b))
    (oL b m0))
    (bD b (c_of hM hcb.1 hcb.2 rfl rfl rfl rfl)))
    (aF b))
    (aY b 2 m1))
    (oM b m4))
    (bD b (afQ hM m3 m1 rfl rfl m4 rfl rfl rfl rfl rfl rfl rfl rfl)))
    (bC b m5))
    (dD b 2 m5)) ?_
 intro ν W4 hν hR;replace hR:Run ⟨w,B,ns⟩ g (N+4) [(X,ν 0),(Y,ν 1),((.mul (.leaf ca) X),ν 5),((.leaf cb),ν 7),((.mul (.leaf cb) Y),ν 9)] [((ν 2),.cells #[(.int .i64 1),(.float .f64 ca),(.float .f64 cb),(.float .f64 cc)] 29),((ν 3),iL g (ν 0) (ν 1)),((ν 4),.cells #[.pointer none,.int .i64 0] 31),((ν 6),numO g (ν 5)),((ν 8),numO g (ν 1)),((ν 10),numO g (ν 9))] W4:=hR;have e0:ν 0=i:=hν 0 rfl;have e1:ν 1=j:=hν 1 rfl;have e2:ν 2=b1:=hν 2 rfl;have e3:ν 3=b2:=hν 3 rfl;have e4:ν 4=b3:=hν 4 rfl;have e5:ν 5=n6:=hν 5 rfl;have e6:ν 6=b7:=hν 6 rfl;simp only[e0,e1,e2,e3,e4,e5,e6]at hR|-;clear hν e0 e1 e2 e3 e4 e5 e6;generalize ν 7=n8 at hR|-;generalize ν 8=b9 at hR|-;generalize ν 9=n10 at hR|-;generalize ν 10=b11 at hR|-;have R4:=hdd hR;clear hR R3;simp only[putL,bdW,bdZ]
 go_upto_region 3 with fail
 refine Spec.run (S:=⟨_,fun i=>([numS g 2,numS g 4,.w (.c (.sl 6 1)),numS g 7,.w (.c (.v (.pointer (some ⟨g,0,none⟩)))),.w (.c (.ptr 0 3)),.w (.c (.v (.float .f64 cc))),numS g 8,numS g 9,noS]:List SV).getD i noS,fun n=>([none,none,none,none,none,none,some 2,some 3,some 7,some 8]:List (Option Nat)).getD n none,
  [(2,(.mul (.leaf ca) X)),(4,(.mul (.leaf cb) Y)),(7,(.add (.mul (.leaf ca) X) (.mul (.leaf cb) Y))),(8,(.leaf cc)),(9,(.sub (.add (.mul (.leaf ca) X) (.mul (.leaf cb) Y)) (.leaf cc)))],[⟨0,29,[.v (.int .i64 1),.v (.float .f64 ca),.v (.float .f64 cb),.v (.float .f64 cc)],none⟩,⟨1,31,[.v (.pointer none),.v (.int .i64 0)],some (9,numC g 9)⟩,⟨3,31,numC g 2,none⟩,⟨5,31,numC g 4,none⟩,⟨6,31,numC g 4,none⟩],
  fun i=>([0,0,0,1,0,0,0,1,1,0]:List Nat).getD i 0,fun i=>([[],[],[1],[0,1,2],[],[],[5],[4,5,6],[0,1,2,3,4,5,6,7],[0,1,2,3,4,5,6,7,8]]:List (List Nat)).getD i [],[(7,.w (.c (.ptr 3 0))),(8,.w (.c (.ptr 5 0))),(0,.w (.c (.v (.pointer (some ⟨g,0,none⟩))))),(4,.w (.c (.ptr 0 0))),(6,.w (.c (.ptr 1 0)))]⟩)
  (W:=runW ⟨w,B,ns⟩ g) (ν0:=fun n=>([b1,b3,n6,b7,n10,b11]:List Nat).getD n 0) (c0:=(N+4))
  (fs:=fun ν=>[(25,numV g (ν 2)),(26,numV g (ν 4)),(27,.slice (some ⟨(ν 6),0,none⟩) 1 1),(28,numV g (ν 7)),(29,.pointer (some ⟨g,0,none⟩)),(30,.pointer (some ⟨(ν 0),3,none⟩)),(31,(.float .f64 cc)),(32,numV g (ν 8)),(33,numV g (ν 9))]) 10 (N+7) [false,false,true,false] [true,false,true,true,false]
  ⟨Spec.wf_of (by kernel_rfl),wT (by kernel_rfl),oN ⟨rfl,rfl,rfl,rfl,rfl,trivial⟩⟩ R4.out (Run.nodup R4.out) (by omega)
  (fun b hM=>aB (aB (aB (aB (aB (aB (aB (aB (aB (aB aN
    (aY b 2 m2))
    (aY b 2 m3))
    (oM b m4))
    (bD b (aoD hM m0 m1 rfl rfl m4 rfl rfl rfl rfl rfl rfl rfl rfl)))
    (aF b))
    (aF b))
    (oL b m0))
    (bD b (c_of hM hcc.1 hcc.2 rfl rfl rfl rfl)))
    (bD b (afP hM m2 m3 rfl rfl rfl rfl rfl rfl)))
    (dD b 2 m1)) ?_
 intro ν W5 hν hR;replace hR:Run ⟨w,B,ns⟩ g (N+7) [((.mul (.leaf ca) X),ν 2),((.mul (.leaf cb) Y),ν 4),((.add (.mul (.leaf ca) X) (.mul (.leaf cb) Y)),ν 7),((.leaf cc),ν 8),((.sub (.add (.mul (.leaf ca) X) (.mul (.leaf cb) Y)) (.leaf cc)),ν 9)] [((ν 0),.cells #[(.int .i64 1),(.float .f64 ca),(.float .f64 cb),(.float .f64 cc)] 29),((ν 1),numO g (ν 9)),((ν 3),numO g (ν 2)),((ν 5),numO g (ν 4)),((ν 6),numO g (ν 4))] W5:=hR;have e0:ν 0=b1:=hν 0 rfl;have e1:ν 1=b3:=hν 1 rfl;have e2:ν 2=n6:=hν 2 rfl;have e3:ν 3=b7:=hν 3 rfl;have e4:ν 4=n10:=hν 4 rfl;have e5:ν 5=b11:=hν 5 rfl;simp only[e0,e1,e2,e3,e4,e5]at hR|-;clear hν e0 e1 e2 e3 e4 e5;generalize ν 6=b12 at hR|-;generalize ν 7=n13 at hR|-;generalize ν 8=n14 at hR|-;generalize ν 9=n15 at hR|-;have R5:=hdd hR;clear hR R4;simp only[putL,bdW,bdZ];go_wp2;obtain⟨x0,x1,-,-⟩:=aD (R5.out.at m1);refine bodyPost_ret (v:=.agg #[_,_]) (by simp[results,Tryz.results25,go_sem,x0,x1];first|exact⟨rfl,rfl⟩|rfl) rfl ?_;exact⟨[n15],rfl,rfl,_,R5.out.few (fP [4])⟩
end Go.Proofs.YtjaafolhfihegaaGreatDoor
