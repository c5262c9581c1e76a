/- A part of the proof: contracts of functions and plain laws (FlD, ErA, ErB, ScQ, ScR, ScS, ScJ). -/
import Derived.Test.YtigoiiekebccnaaGreatDoorK34
import Derived.Test.YtigoiiekebccnaaGreatDoorK18
import Derived.Test.YtigoiiekebccnaaGreatDoorK33
import Derived.Test.YtigoiiekebccnaaGreatDoorK20
import Derived.Test.YtigoiiekebccnaaGreatDoorK13
set_option linter.unusedVariables false
set_option linter.unusedSimpArgs false
set_option linter.unnecessarySimpa false
set_option maxHeartbeats 25600000
set_option maxRecDepth 100000
namespace Go.Proofs.YtigoiiekebccnaaGreatDoor
section
open Go.RowKit Go.Maps Go.Stop Go.Extern
theorem ahX(p:Addr)(w:World):
 CallsD Tryz.prog 26 #[.pointer (some p)] .returning w fun e u' w'=>e=.returned (.tuple #[])/\u'=.returning/\w'=w:=by
 refine callsD_of_wpS Tryz.func26 rfl fun c₀ cs hu=> ?_;apply wpS_seq;apply wpS_region;simp[wpOpsS,go_sem,recoverD,hu,Tryz.ntmps26,Exit.thenS];refine wpS_cond (t:=false) (by simp[Act.eval,Array.replicate]) ?_;simp only[Bool.false_eq_true,if_false];refine wpS_of_wp (wp_skip ?_)
 cases c₀
 simp_all[bodyPostS,results,Tryz.results26]
theorem alU{S:Nat->Prop}{w:World}{n:Nat}{v:Value}{k:Int}(h:ErK S w n v k)(hn:n<16777216):
 Calls Tryz.prog 10 #[v] w (fun e w'=>e=.returned (.int .i64 k)/\Below w.heap.size w w'):=by
 have hmf:∀(fn:Fn) (first cap:Array Value) (w:World),(Instr.makeFunc fn first cap).run Tryz.prog w=.ok (.func fn first cap) w:=fun _ _ _ _=>rfl;have hnn:∃t x,v=.iface t x:=by cases h<;>exact⟨_,_,rfl⟩
 obtain⟨vt,vx,rfl⟩:=hnn;have hbd:=h.bound;obtain⟨w1,hw1,hb1,hs1,b1⟩:=pro1 w (.cells #[.int .i64 0] 3);have HE1:=hdd (sM (h.low hb1) hn);have HB1:=hdd hb1;have HIS:Hid (∀w' j,Below w.heap.size w w'->Calls Tryz.prog 28 #[.iface vt vx,.iface 57 (.int .i64 j)] w' (fun e w''=>e=.returned (.bool (k==j))/\w''=w')):=hdd fun w' j h'=>ao4 (h.low h');clear h
 go_enter_defers Tryz.func10,Tryz.ntmps10
 have c0:w1.cell? ⟨w.heap.size,0,none⟩=some (.int .i64 0):=by simp[<-hw1]
 have z0:w1.frozen? ⟨w.heap.size,0,none⟩=false:=by simp[<-hw1]
 go_wp2_with fail
 refine HE1.out.mono ?_;rintro e w2⟨rfl,hb2⟩;have c2:w2.cell? ⟨w.heap.size,0,none⟩=some (.int .i64 0):=cell_below c0 hb2 (by omega);have z2:w2.frozen? ⟨w.heap.size,0,none⟩=false:=(hb2.frozen (by simp[hs1])).trans z0;have HB2:=hdd (HB1.out.trans (hb2.mono HB1.out.size));clear hb2 c0 z0;go_wp2_with fail
 go_loopw [3] (fun i wr=>∃j:Int,1<=j/\j<=k/\i=.int .i64 j/\wr=w2) (fun i _=>(8-intOf i).toNat)
 case atStart=>exact⟨1,by omega,hbd.1,rfl,rfl⟩
 case round=>
  obtain⟨j,hj1,hjk,rfl,rfl⟩:=hrel;have h7:j<=7:=by omega
  go_wp2_with fail
  refine(HIS.out _ j HB2.out).mono ?_;rintro e w3⟨rfl,rfl⟩;by_cases hkj:k=j
  . subst hkj
    have hbk:(k==k)=true:=by simp
    rw[hbk];go_wp2_with fail
    refine leaves_cons (f:=26) (args:=#[.pointer (some ⟨w.heap.size,0,none⟩)]) (by simp) (by simp[go_sem]) ?_;refine(ahX ⟨w.heap.size,0,none⟩ _).mono ?_;rintro e u' w''⟨rfl,rfl,rfl⟩;have HF:=HB2.out.setCell (p:=⟨w.heap.size,0,none⟩) nlr (.int .i64 k);simp[Leaves,settle,results,Tryz.results10,go_sem,c2];exact HF
  . have hbk:(k==j)=false:=by simp[hkj]
    rw[hbk];go_wp2_with fail
    go_roundw
    case rel=>exact⟨j+1,by omega,by omega,by go_num,trivial⟩
    case measure=>simp[intOf];omega
end
section
open Go.RowKit Go.Maps Go.Stop Go.Extern Go.Extern.Stop
open Go.Result renaming andThen->bjC
open Go.World renaming cell?_alloc_lt->bjA,frozen?_alloc_old->bjB,block_lt_of_cell?->bjD,cell?_of_block->bjE,frozen?->bjF
variable{w:World}
def ErTy(w:World):Prop:=w.cell? ⟨0,0,none⟩=some (.iface 123 (.agg #[.pointer (some ⟨10,30,none⟩)]))
theorem ErTy.low {w':World}(h:ErTy w)(hb:Below w.heap.size w w'):ErTy w':=(bjE (hb.block _ (bjD w _ h))).trans h
theorem xB(t:Addr)(w:World):(ReflectliteValue.unpack (.iface 98 (.pointer (some t)))).run Tryz.prog w
 =.ok (.agg #[.pointer (some ⟨10,98,none⟩),.pointer (some ⟨w.heap.size,0,none⟩),.int .u64 150]) (w.alloc (.cells #[.pointer (some t)] 98)):=by kernel_rfl
theorem aeB (a : Addr) (w : World) : (ReflectliteValue.methodAny (ReflectliteValue.valueError "reflectlite.Value.Type" 0) (fun t _ _ _ => ReflectliteType.toType t) #[.agg #[.pointer (some ⟨10, 98, none⟩), .pointer (some a), .int .u64 150]]).run Tryz.prog w
 =.ok (.iface 123 (.agg #[.pointer (some ⟨10,98,none⟩)])) w:=by kernel_rfl
theorem wU (h : Value) (w : World) : (Go.method 493 123 (.agg #[h]) "Kind").run Tryz.prog w = .ok (397, h) w := by kernel_rfl
theorem aeC(w:World):((ReflectliteType.abiMethod fun t=>(fun a:Nat=>Value.int IntKind.u8 (a:Int)) <$> Rtype.kind t) #[.pointer (some ⟨10,98,none⟩)]).run Tryz.prog w=.ok (.int .u8 22) w:=by kernel_rfl
theorem aeD(w:World):((ReflectliteType.abiMethod fun t=>(fun a:Nat=>Value.int IntKind.u8 (a:Int)) <$> Rtype.kind t) #[.pointer (some ⟨10,93,none⟩)]).run Tryz.prog w=.ok (.int .u8 22) w:=by kernel_rfl
/-! ### THE ENTRIES THAT READ OR WRITE MEMORY: laws with a premise on the cell (after Derived/Lib/ReflectliteSlice.lean's manner: each unfolding a lemma of its own, by rfl) -/
theorem rlm(z:Sem Value)(f:TypeId->Addr->Nat->Nat->Sem Value)(v:Value):
 ReflectliteValue.method z f #[v]=(do match<-ReflectliteValue.parts v with|none=>z|some (t,a,fl)=>f t a fl (fl%32)):=rfl
theorem sN(a:Addr)(w:World):(ReflectliteValue.parts (.agg #[.pointer (some ⟨10,98,none⟩),.pointer (some a),.int .u64 150])).run Tryz.prog w=.ok (some (98,a,150)) w:=by kernel_rfl
theorem acW(a p:Addr)(W:World)(ha:W.cell? a=some (.pointer (some p))):
 (ReflectliteValue.method (ReflectliteValue.valueError "reflectlite.Value.IsNil" 0) ReflectliteValue.isNil #[.agg #[.pointer (some ⟨10, 98, none⟩), .pointer (some a), .int .u64 150]]).run Tryz.prog W = .ok (.bool false) W := by
 rw[rlm];simp only[Sem.run_bind,sN,bjC];simp[ReflectliteValue.isNil,loadVar,isAgg,underlying,Tryz.underlying98,ha,bjC]
theorem wV (h : Value) (w : World) : (Go.method 493 123 (.agg #[h]) "Elem").run Tryz.prog w = .ok (408, .agg #[h]) w := by kernel_rfl
theorem mW (h : Value) (w : World) : (Go.method 493 123 (.agg #[h]) "Implements").run Tryz.prog w = .ok (409, .agg #[h]) w := by kernel_rfl
theorem lH (h : Value) (w : World) : (Go.method 493 123 (.agg #[h]) "AssignableTo").run Tryz.prog w = .ok (406, .agg #[h]) w := by kernel_rfl
theorem aeE(w:World):(ReflectliteType.method ReflectliteType.elem #[.agg #[.pointer (some ⟨10,98,none⟩)]]).run Tryz.prog w=.ok (.iface 123 (.agg #[.pointer (some ⟨10,93,none⟩)])) w:=by kernel_rfl
theorem rM (w : World) : (ReflectliteType.relation "Implements" ReflectliteType.implements_ #[.agg #[.pointer (some ⟨10, 93, none⟩)], .iface 123 (.agg #[.pointer (some ⟨10, 30, none⟩)])]).run Tryz.prog w = .ok (.bool true) w := by kernel_rfl
theorem aaJ(v:Value)(w:World):(ReflectliteType.typeOf #[.iface 93 v]).run Tryz.prog w=.ok (.iface 123 (.agg #[.pointer (some ⟨10,93,none⟩)])) w:=by kernel_rfl
theorem rO (w : World) : (ReflectliteType.relation "AssignableTo" ReflectliteType.assignableTo #[.agg #[.pointer (some ⟨10, 93, none⟩)], .iface 123 (.agg #[.pointer (some ⟨10, 93, none⟩)])]).run Tryz.prog w = .ok (.bool true) w := by kernel_rfl
theorem xC(e:Addr)(w:World):(ReflectliteValue.unpack (.iface 93 (.pointer (some e)))).run Tryz.prog w
 =.ok (.agg #[.pointer (some ⟨10,93,none⟩),.pointer (some ⟨w.heap.size,0,none⟩),.int .u64 150]) (w.alloc (.cells #[.pointer (some e)] 93)):=by kernel_rfl
theorem aaK(w:World):(Rtype.elem? 98).run Tryz.prog w=.ok (some 93) w:=by kernel_rfl
theorem alV(p:Addr)(w:World):(ReflectliteValue.mk 93 p ReflectliteValue.flagAddr).run Tryz.prog w=.ok (.agg #[.pointer (some ⟨10,93,none⟩),.pointer (some p),.int .u64 406]) w:=by kernel_rfl
theorem acX(a p:Addr)(W:World)(ha:W.cell? a=some (.pointer (some p))):
 (ReflectliteValue.method (ReflectliteValue.valueError "reflectlite.Value.Elem" 0) ReflectliteValue.elem #[.agg #[.pointer (some ⟨10, 98, none⟩), .pointer (some a), .int .u64 150]]).run Tryz.prog W
   =.ok (.agg #[.pointer (some ⟨10,93,none⟩),.pointer (some p),.int .u64 406]) W:=by
 rw[rlm];simp only[Sem.run_bind,sN,bjC];simp[ReflectliteValue.elem,loadVar,isAgg,underlying,Tryz.underlying98,ha,bjC,aaK,alV]
theorem rls(v x:Value):ReflectliteValue.set #[v,x]=(do
 let (some (dst,a,fl),some (src,b,_)):=(<-ReflectliteValue.parts v,<-ReflectliteValue.parts x)
  | unsupported (.noEntry "extern/(internal/reflectlite.Value).Set.zeroValue")
 if fl / ReflectliteValue.flagAddr % 2 == 0 then unsupported (.noEntry "extern/(internal/reflectlite.Value).Set.unaddressable")
 let val<-loadVar src b
 if<-Rtype.directlyAssignable dst src then storeVar dst a val
 else if<-Rtype.implements dst src then
  if (<-Rtype.kind src)==20 then
   match val with
   | .nilIface => unsupported (.noEntry "extern/reflectlite: a nil value of one interface type handed on as a value of another")
   |_=>storeVar dst a val
  else storeVar dst a (.iface src val)
 else panicString ("reflectlite.Set: value of type " ++ (← Rtype.spelt src) ++ " is not assignable to type " ++ (← Rtype.spelt dst))
 pure (.tuple #[])):=rfl
theorem aaL(a:Addr)(w:World):(ReflectliteValue.parts (.agg #[.pointer (some ⟨10,93,none⟩),.pointer (some a),.int .u64 406])).run Tryz.prog w=.ok (some (93,a,406)) w:=by kernel_rfl
theorem acY(a:Addr)(w:World):(ReflectliteValue.parts (.agg #[.pointer (some ⟨10,93,none⟩),.pointer (some a),.int .u64 150])).run Tryz.prog w=.ok (some (93,a,150)) w:=by kernel_rfl
theorem aaM(w:World):(Rtype.directlyAssignable 93 93).run Tryz.prog w=.ok true w:=by kernel_rfl
theorem ahY(ta b e:Addr)(old:Value)(W:World)(hb:W.cell? b=some (.pointer (some e)))(ht:W.cell? ta=some old)(hf:W.frozen? ta=false):
 (ReflectliteValue.set #[.agg #[.pointer (some ⟨10,93,none⟩),.pointer (some ta),.int .u64 406],.agg #[.pointer (some ⟨10,93,none⟩),.pointer (some b),.int .u64 150]]).run Tryz.prog W
   =.ok (.tuple #[]) (W.setCell ta (.pointer (some e))):=by
 rw[rls];simp only[Sem.run_bind,aaL,acY,bjC];simp[ReflectliteValue.flagAddr,loadVar,isAgg,underlying,Tryz.underlying93,hb,bjC,aaM,storeVar,Value.cells,storeCells,Addr.add];rw[run_store Tryz.prog W ta _ _ (by rfl)];simp[ht,hf]
theorem ao5(e t:Addr)(old:Value)(w:World)(hg:w.cell? ⟨0,0,none⟩=some (.iface 123 (.agg #[.pointer (some ⟨10,30,none⟩)])))(ht0:w.cell? t=some old)(hf0:w.frozen? t=false):
 Calls Tryz.prog 62 #[.iface 93 (.pointer (some e)),.iface 98 (.pointer (some t))] w fun ev w'=>ev=.returned (.bool true)/\w'=((((w.alloc (.cells #[.pointer (some t)] 98)).alloc (.cells #[.pointer (some ⟨10,98,none⟩),.pointer (some ⟨w.heap.size,0,none⟩),.int .u64 150] 142)).alloc (.cells #[.pointer (some ⟨10,98,none⟩),.pointer (some ⟨w.heap.size,0,none⟩),.int .u64 150] 142)).alloc (.cells #[.pointer (some e)] 93)).setCell t (.pointer (some e)):=by
 have h6:=@run_callFunc_extern Tryz.prog 85 _ (fun args=>ReflectliteValue.unpack (args.getD 0 (.tuple #[]))) Tryz.func85 (by kernel_rfl) (by kernel_rfl) (by kernel_rfl) (by kernel_rfl);have h7 := @run_callFunc_extern Tryz.prog 86 _ (ReflectliteValue.methodAny (ReflectliteValue.valueError "reflectlite.Value.Type" 0) (fun t _ _ _ => ReflectliteType.toType t)) Tryz.func86 (by kernel_rfl) (by kernel_rfl) (by kernel_rfl) (by kernel_rfl)
 have h8 := @run_callFunc_extern Tryz.prog 87 _ (ReflectliteValue.method (ReflectliteValue.valueError "reflectlite.Value.IsNil" 0) ReflectliteValue.isNil) Tryz.func87 (by kernel_rfl) (by kernel_rfl) (by kernel_rfl) (by kernel_rfl)
 have h27:=@run_callFunc_extern Tryz.prog 397 _ (ReflectliteType.abiMethod fun t=>do pure (.int .u8 (<-Rtype.kind t))) Tryz.func397 (by kernel_rfl) (by kernel_rfl) (by kernel_rfl) (by kernel_rfl);have h37:=@run_callFunc_extern Tryz.prog 408 _ (ReflectliteType.method ReflectliteType.elem) Tryz.func408 (by kernel_rfl) (by kernel_rfl) (by kernel_rfl) (by kernel_rfl);have h38 := @run_callFunc_extern Tryz.prog 409 _ (ReflectliteType.relation "Implements" ReflectliteType.implements_) Tryz.func409 (by kernel_rfl) (by kernel_rfl) (by kernel_rfl) (by kernel_rfl)
 have h10:=@run_callFunc_extern Tryz.prog 46 _ ReflectliteType.typeOf Tryz.func46 (by kernel_rfl) (by kernel_rfl) (by kernel_rfl) (by kernel_rfl);have h35 := @run_callFunc_extern Tryz.prog 406 _ (ReflectliteType.relation "AssignableTo" ReflectliteType.assignableTo) Tryz.func406 (by kernel_rfl) (by kernel_rfl) (by kernel_rfl) (by kernel_rfl)
 have h11 := @run_callFunc_extern Tryz.prog 116 _ (ReflectliteValue.method (ReflectliteValue.valueError "reflectlite.Value.Elem" 0) ReflectliteValue.elem) Tryz.func116 (by kernel_rfl) (by kernel_rfl) (by kernel_rfl) (by kernel_rfl)
 have h12:=@run_callFunc_extern Tryz.prog 117 _ ReflectliteValue.set Tryz.func117 (by kernel_rfl) (by kernel_rfl) (by kernel_rfl) (by kernel_rfl);have tO:=aaJ;have mA:=lH;have a25:=rO;have v25:=xC;have f6:=xB;have f7:=aeB;have mK:=wU;have mE:=wV;have mI:=mW;have k27:=aeC;have k25:=aeD;have e27:=aeE;have i25:=rM;have n8:=acW ⟨w.heap.size,0,none⟩ t ((w.alloc (.cells #[.pointer (some t)] 98)).alloc (.cells #[.pointer (some ⟨10,98,none⟩),.pointer (some ⟨w.heap.size,0,none⟩),.int .u64 150] 142)) (by simp);have hlt:0<w.heap.size:=bjD w _ hg;have hg2:((w.alloc (.cells #[.pointer (some t)] 98)).alloc (.cells #[.pointer (some ⟨10,98,none⟩),.pointer (some ⟨w.heap.size,0,none⟩),.int .u64 150] 142)).cell? ⟨0,0,none⟩=some (.iface 123 (.agg #[.pointer (some ⟨10,30,none⟩)])):=by
  rw[bjA _ _ ⟨0,0,none⟩ (by first|(simp;done)|(simp;omega)),bjA _ _ ⟨0,0,none⟩ hlt];exact hg
 have htl:t.block<w.heap.size:=by
  rcases Nat.lt_or_ge t.block w.heap.size with h|h
  . exact h
  . simp[World.cell?,Array.getElem?_eq_none h]at ht0
 have el:=acX ⟨w.heap.size,0,none⟩ t (((w.alloc (.cells #[.pointer (some t)] 98)).alloc (.cells #[.pointer (some ⟨10,98,none⟩),.pointer (some ⟨w.heap.size,0,none⟩),.int .u64 150] 142)).alloc (.cells #[.pointer (some ⟨10,98,none⟩),.pointer (some ⟨w.heap.size,0,none⟩),.int .u64 150] 142)) (by rw[bjA _ _ ⟨w.heap.size,0,none⟩ (by simp;omega)];simp);have st:=ahY t ⟨w.heap.size+1+1+1,0,none⟩ e old ((((w.alloc (.cells #[.pointer (some t)] 98)).alloc (.cells #[.pointer (some ⟨10,98,none⟩),.pointer (some ⟨w.heap.size,0,none⟩),.int .u64 150] 142)).alloc (.cells #[.pointer (some ⟨10,98,none⟩),.pointer (some ⟨w.heap.size,0,none⟩),.int .u64 150] 142)).alloc (.cells #[.pointer (some e)] 93))
  (by rw[World.cell?_alloc_at _ _ _ _ (by simp)];rfl)
  (by rw[bjA _ _ t (by simp;omega),bjA _ _ t (by simp;omega),bjA _ _ t (by simp;omega),bjA _ _ t htl];exact ht0)
  (by rw[bjB _ _ t (by simp;omega),bjB _ _ t (by simp;omega),bjB _ _ t (by simp;omega),bjB _ _ t (Nat.ne_of_lt htl)];exact hf0)
 go_enter Tryz.func62,Tryz.ntmps62
 go_wp2;refine wp_loop_rounds 1 ?_;rw[rounds_succ];go_wp2;go_ret;exact⟨rfl,rfl⟩
theorem apP{e:Addr}{t:Nat}{w0:World}{old:Value}(hT:ErTy w)(hb:Below w0.heap.size w0 w)(ht:w0.heap.size<=t)(h0:w.heap[t]? =some (.cells #[old] 93 (0,0))):
 Calls Tryz.prog 62 #[.iface 93 (.pointer (some e)),.iface 98 (.pointer (some ⟨t,0,none⟩))] w fun ev w'=>ev=.returned (.bool true)/\Below w0.heap.size w0 w'/\w'.heap[t]? =some (.cells #[.pointer (some e)] 93 (0,0))/\∀b,b≠t->b<w.heap.size->w'.heap[b]? =w.heap[b]? :=by
 refine(ao5 e ⟨t,0,none⟩ old w hT (gH (k:=0) h0 rfl) (by simp[bjF,h0])).mono ?_;rintro ev w'⟨rfl,rfl⟩;have h4:=fun(o1 o2 o3 o4:Obj)=>(((((Below.refl w.heap.size w).alloc nlr o1).alloc (by simp) o2).alloc (by simp;omega) o3).alloc (by simp;omega) o4);refine⟨rfl,?_,?_,?_⟩
 . exact(hb.trans ((h4 _ _ _ _).mono hb.size)).setCell ht _
 . exact zO (cs:=[old]) (k:=0) (aC h0 (h4 _ _ _ _) (aD h0))
 . intro b hne hlt
   rw[Below.heap_setCell _ _ _ _ (by simpa using hne)];exact(h4 _ _ _ _).block _ hlt
theorem aeF(p q:Addr)(w:World):
 CallsD Tryz.prog 60 #[.pointer (some p),.pointer (some q)] .returning w fun e u' w'=>e=.returned (.tuple #[])/\u'=.returning/\w'=w:=by
 refine callsD_of_wpS Tryz.func60 rfl fun c₀ cs hu=> ?_;apply wpS_seq;apply wpS_region;simp[wpOpsS,go_sem,recoverD,hu,Tryz.ntmps60,Exit.thenS];refine wpS_cond (t:=false) (by simp[Act.eval,Array.replicate]) ?_;simp only[Bool.false_eq_true,if_false];refine wpS_of_wp (wp_skip ?_)
 cases c₀
 simp_all[bodyPostS,results,Tryz.results60]
theorem alW{S:Nat->Prop}{n b:Nat}{k i:Int}(h:ErK S w n (.iface 93 (.pointer (some ⟨b,0,none⟩))) k)(hn:n<16777216)(hi:w.cell? ⟨b,0,none⟩=some (.int .i64 i))(hT:ErTy w):
 Calls Tryz.prog 36 #[.iface 93 (.pointer (some ⟨b,0,none⟩))] w (fun e w'=>e=.returned (.tuple #[.int .i64 i,.bool true])/\Below w.heap.size w w'):=by
 have hmf:∀(fn:Fn) (first cap:Array Value) (w:World),(Instr.makeFunc fn first cap).run Tryz.prog w=.ok (.func fn first cap) w:=fun _ _ _ _=>rfl;obtain⟨w3,hw3,hb3,hs3,b1,b2,b3⟩:=pro3 w (.cells #[.int .i64 0] 3) (.cells #[.bool false] 4) (.cells #[.pointer none] 93);have HE1:=hdd (sM (h.low hb3) hn);have HB3:=hdd hb3;have HT3:=hdd (hT.low hb3);have HI:=hdd (cbl hi hb3);have B1:=hdd b1;have B2:=hdd b2;have B3:=hdd b3;have HBL:=hdd (bjD w _ hi);clear h hn hi hT hb3 b1 b2 b3
 go_enter_defers Tryz.func36,Tryz.ntmps36
 have c0:w3.cell? ⟨w.heap.size,0,none⟩=some (.int .i64 0):=gH (k:=0) B1.out rfl;go_wp2_with fail
 refine HE1.out.mono ?_;rintro e w4⟨rfl,hb4⟩;have HB4:=hdd (HB3.out.trans (hb4.mono HB3.out.size));have C1:=hbl B1.out hb4;have C2:=hbl B2.out hb4;have C3:=hbl B3.out hb4;have HAS:=hdd (apP (e:=⟨b,0,none⟩) (HT3.out.low hb4) HB4.out (Nat.le_add_right _ 2) C3);have HI4:=hdd (cell_below HI.out hb4 nlr);have D1:=hdd C1;have D2:=hdd C2;have hs4:w.heap.size+3<=w4.heap.size:=by have:=hb4.size;omega
 have HS4:=hdd hs4;clear hb4 HE1 B1 B2 B3 HI HT3 C1 C2 C3 c0 hs4;go_wp2_with fail
 refine HAS.out.mono ?_;rintro e w5⟨rfl,hb5,h5,hk5⟩;have E1:=(hk5 w.heap.size (by omega) (by have:=HS4.out;omega)).trans D1.out;have E2:=(hk5 (w.heap.size+1) (by omega) (by have:=HS4.out;omega)).trans D2.out;have c0:=gH (k:=0) (v:=.int .i64 0) E1 rfl;have c1:=gH (k:=0) (v:=.bool false) E2 rfl;have c2:=gH (k:=0) (v:=.pointer (some ⟨b,0,none⟩)) h5 rfl;have z0:w5.frozen? ⟨w.heap.size,0,none⟩=false:=by simp[bjF,E1]
 have z1:w5.frozen? ⟨w.heap.size+1,0,none⟩=false:=by simp[bjF,E2]
 have hbi:w5.cell? ⟨b,0,none⟩=some (.int .i64 i):=by
  have:=HBL.out;rw[bjE (hk5 b (by omega) (by have:=HS4.out;omega))];exact HI4.out
 have n1:w.heap.size≠w.heap.size+1:=by omega
 have HF:Hid (Below w.heap.size w ((w5.setCell ⟨w.heap.size,0,none⟩ (.int .i64 i)).setCell ⟨w.heap.size+1,0,none⟩ (.bool true))):=hdd ((hb5.setCell (p:=⟨w.heap.size,0,none⟩) nlr _).setCell (p:=⟨w.heap.size+1,0,none⟩) (Nat.le_succ _) _);clear hb5 h5 hk5 HAS E1 E2 D1 D2 HI4 HB4 HB3;go_wp2_with fail
 refine leaves_cons (f:=60) (args:=#[.pointer (some ⟨w.heap.size,0,none⟩),.pointer (some ⟨w.heap.size+1,0,none⟩)]) (by simp) (by simp[go_sem]) ?_;refine(aeF ⟨w.heap.size,0,none⟩ ⟨w.heap.size+1,0,none⟩ _).mono ?_;rintro e u' w''⟨rfl,rfl,rfl⟩;simp[Leaves,settle,results,Tryz.results36,go_sem,c0,c1];exact HF.out
end
section
open Go.RowKit Go.Maps
open Re (rat)
variable{w:World}
theorem apQ:rY PT (.sub (.mul (.root (li 2)) (.root (li 2))) (li 2)) 0:=by
 obtain⟨x,hx,ex⟩:=Re.exists_sqrt (show(0:Re)<=rat ((2:Int):Rat) by rw[Re.zero_rat,Re.rat_le];exact Rat.intCast_le_intCast.2 (by decide));obtain⟨L,hL⟩:∃L:List Ex,L=[.root (li 2),.root (li 2)]:=⟨_,rfl⟩;have l1:L.length=2:=by rw[hL];rfl
 have f2:=anK (L:=L) (k:=2) 2 (by decide) (by decide);have X:=Fit.root f2 hx ex (by rw[hL];exact List.mem_cons_self ..);have h:=(Fit.sub (Fit.mul X X) f2).sgn (P:=PT) (by rw[l1];decide+kernel);rwa[ex,Re.sub_self,Re.sgn_zero]at h
theorem alX(n:Int)(l:List UInt8)(h:Lib.itoa n=l)(hT:T10 w)(hn:-9223372036854775808<=n/\n<=9223372036854775807):Calls Tryz.prog 38 #[.int .i64 n] w (RetV w (.string ⟨l.toArray⟩)):=h▸p9 hT hn
theorem alY{S:Nat->Prop}{n:Nat}{v:Value}(h:ErK S w n v 6)(hn:n<16777216)(hT:T10 w):Calls Tryz.prog 37 #[v] w (RetV w (.string ⟨#[101,114,114,32,54]⟩)):=by
 have HC:=hdd (alU h hn);have HT:=hdd hT;obtain⟨t,x,rfl⟩:∃t x,v=.iface t x:=by cases h<;>exact⟨_,_,rfl⟩
 clear h hn hT;go_enter Tryz.func37,Tryz.ntmps37
 go_wp2_with fail
 refine HC.out.mono ?_;rintro e w1⟨rfl,hb1⟩;have HIT:=hdd (alX 6 [54] (by kernel_rfl) (HT.out.low hb1) (by decide));have HB:=hdd hb1;clear hb1;go_wp2_with fail
 refine HIT.out.mono ?_;rintro e w2⟨rfl,hb2⟩;have HF:=hdd (aA HB.out hb2);clear hb2;go_wp2;go_ret;exact⟨by kernel_rfl,HF.out⟩
def txt1:ByteArray:=⟨#[105,110,116,32,50,10,114,111,111,116,32,48,10,98,97,100]⟩
def txt2:ByteArray:=⟨#[105,110,116,32,50,10,114,111,111,116,32,48,10,109,117,108,32,49,32,49,10,99,109,112,32,50,32,48]⟩
def stp2:List Stp:=[(⟨#[105,110,116]⟩,[2]),(⟨#[114,111,111,116]⟩,[0]),(⟨#[109,117,108]⟩,[1,1]),(⟨#[99,109,112]⟩,[2,0])]
theorem anN:lX txt1=.inr (3,6):=by kernel_rfl
theorem anO:lX txt2=.inl stp2:=by kernel_rfl
theorem apR{mx:Int}(hm:w.cell? ⟨1,0,none⟩=some (.int .i64 mx))(hT:T10 w)(hE:ErTy w):Calls Tryz.prog 15 #[.string txt1] w (RetV w (.string ⟨#[101,114,114,32,54,32,51,10]⟩)):=by
 have HP:=hdd (oG (s:=txt1) hm);rw[anN]at HP;have HT:=hdd hT;have HE:=hdd hE;clear hm hT hE;go_enter Tryz.func15,Tryz.ntmps15
 go_wp2_with fail
 refine HP.out.mono ?_;rintro e w1⟨hb1,b,rfl,hlo,hb⟩;obtain⟨c0,c1,-,-⟩:=aB hb;have HK:Hid (ErK (fun _=>True) w1 1 (.iface 93 (.pointer (some ⟨b,0,none⟩))) 6):=hdd (.att trivial c1 (.kind (by decide) (by decide)));have HW:=hdd (alW HK.out (by decide) c0 (HE.out.low hb1));have HB1:=hdd hb1;clear hb1 hb hlo c0 c1 HP;go_wp2_with fail
 refine HW.out.mono ?_;rintro e w2⟨rfl,hb2⟩;have HB2:=hdd (aA HB1.out hb2);have HFA:=hdd (alY (HK.out.low hb2) (by decide) (HT.out.low HB2.out));clear hb2 HW;go_wp2_with fail
 refine HFA.out.mono ?_;rintro e w3⟨rfl,hb3⟩;have HB3:=hdd (aA HB2.out hb3);have HIT:=hdd (alX 3 [51] (by kernel_rfl) (HT.out.low HB3.out) (by decide));clear hb3 HFA;go_wp2_with fail
 refine HIT.out.mono ?_;rintro e w4⟨rfl,hb4⟩;have HB4:=hdd (aA HB3.out hb4);clear hb4;go_wp2;go_ret;exact⟨by kernel_rfl,HB4.out⟩
end
section
open Go.RowKit Go.Maps
open _root_.ByteArray renaming size_append->bjG,data_append->bjM
open List renaming mem_cons_self->bjI,mem_append_right->bjJ,mem_cons_of_mem->bjK,mem_singleton->bjL
open Option.some renaming inj->bjH
variable{k q:Nat}{o:Obj}
section
variable{w0 W W':World}{g N b bb:Nat}{L L' lb:List (Nat×Obj)}{es:List Ex}{l:List UInt8}{x:ByteArray}
theorem ConP.step (h:ConP w0 g b es L N W)(hb:Below W.heap.size W W'):ConP w0 g b es L N W':=by
 obtain⟨v,lr,ks,K,hl,ho,hR,hK⟩:=h;exact⟨v,lr,ks,K,hl,ho,hR.step hb,hK⟩
theorem ConP.below (h:ConP w0 g b es L N W):Below w0.heap.size w0 W:=by
 obtain⟨v,lr,ks,K,hl,ho,hR,hK⟩:=h;exact hR.below
theorem ConP.subl (h:ConP w0 g b es L N W)(hs:L'.Sublist L):ConP w0 g b es L' N W:=by
 obtain⟨v,lr,ks,K,hl,ho,hR,hK⟩:=h;exact⟨v,lr,ks,K,hl,ho,hR.subl (List.Sublist.cons_cons _ (List.Sublist.append_left hs _)),hK⟩
theorem ConP.at (h:ConP w0 g b es L N W)(hm:(k,o)∈L):W.heap[k]? =some o:=by
 obtain⟨v,lr,ks,K,hl,ho,hR,hK⟩:=h;exact hR.at (bjK _ (bjJ _ hm))
theorem acZ{A:Type}{a:A}{lr lb L:List A}:(lb++(a::(lr++L))).Perm (a::(lr++(lb++L))):=
 List.perm_middle.trans (List.Perm.cons _ (List.perm_append_comm_assoc lb lr L))
theorem ConP.keep (h:ConP w0 g b es lb N W)(hb:Below W.heap.size W W')(ho:W'.heap[k]? =some o)(hlo:W.heap.size<=k):ConP w0 g b es (lb++[(k,o)]) N W':=by
 obtain⟨v,lr,ks,K,hl,ho',hR,hK⟩:=h;refine⟨v,lr,ks,K,hl,ho',(hR.keep hb ho hlo).perm ?_,hK⟩;rw[<-List.append_assoc,<-List.cons_append];exact List.perm_append_singleton _ _
theorem ConP.bld (h:ConP w0 g b es (lb++L) N W)(hB:BldR bb l lb):BdT w0.heap.size bb l W:=by
 obtain⟨v,lr,ks,K,hl,ho,hR,hK⟩:=h;have hR:=hR.perm acZ;obtain⟨p,v',lr',rfl,hp,ho'⟩:=hB;obtain⟨ns',hs,-⟩:=id hR;have hb:=hR.at (bjI ..);have hbl:w0.heap.size<=bb:=(hs.kept _ (bjI ..)).2.2;have hn:=ae5 ho' hR;have hw:W.ownsRow w0.heap.size 5 1 v' (Lib.byteCells l).length (Lib.byteCells l):=by
  rw[Lib.byteCells_length];refine⟨ho'.1,?_⟩;rcases ho'.2 with ⟨rfl,e,-⟩|⟨r,c,cur,rfl,rfl,h1,h2,h3,h4⟩
  . exact Or.inl ⟨rfl,e⟩
  . obtain⟨q1,-,q3⟩:=hs.kept (r,.cells cur 5) (bjK _ (bjI ..))
    exact Or.inr ⟨r,c,cur,rfl,q3,q1,h1,h2,h3,h4⟩
 rcases hp with rfl|rfl
 . exact Or.inl ⟨hbl,v',hb,hw,hn⟩
 . exact Or.inr ⟨hbl,v',hb,hw,hn⟩
theorem ConP.write (h:ConP w0 g b es (lb++L) N W)(hB:BldR bb l lb)(h0:0<x.size)(hs:l.length+x.size<=1000000):
 Calls Tryz.prog 20 #[.pointer (some ⟨bb,0,none⟩),.string x] W fun e W'=>e=.returned (.tuple #[.int .i64 x.size,.nilIface])/\∃lb',BldR bb (l++x.data.toList) lb'/\ConP w0 g b es (lb'++L) N W':=by
 obtain⟨v,lr,ks,K,hl,ho,hR,hK⟩:=h;refine(aoO hB (hR.perm acZ) h0 hs).mono ?_;rintro e W'⟨rfl,lb',hB',hR'⟩;exact⟨rfl,lb',hB',v,lr,ks,K,hl,ho,hR'.perm acZ.symm,hK⟩
end
def esT:List Ex:=[li 2,.root (li 2),.mul (.root (li 2)) (.root (li 2))]
def tT:Nat->ByteArray
 |0=>⟨#[48]⟩
 |1=>⟨#[49]⟩
 |2=>⟨#[50]⟩
 |_=>⟨#[48]⟩
theorem anP(q:Nat):(tT q).size=1:=by
 match q with
 |0=>rfl
 |1=>rfl
 |2=>rfl
 |_+3=>rfl
def outT:Nat->List UInt8
 |0=>[]
 |q+1=>outT q++(([62,32]++joinL (stp2.getD q (⟨#[]⟩,[])).1 (stp2.getD q (⟨#[]⟩,[])).2++[10])++((tT q).data.toList++[10]))
theorem alZ(h:q<=4):(outT q).length<=100:=by
 match q,h with
 |0,_=>decide+kernel
 |1,_=>decide+kernel
 |2,_=>decide+kernel
 |3,_=>decide+kernel
 |4,_=>decide+kernel
theorem ao6:outT 4=[62,32,105,110,116,32,50,10,48,10,62,32,114,111,111,116,32,48,10,49,10,62,32,109,117,108,32,49,32,49,10,50,10,62,32,99,109,112,32,50,32,48,10,48,10]:=by kernel_rfl
theorem ahZ{x:Stp}(h:stp2[q]? =some x):x.1.data.toList≠[]/\(joinL x.1 x.2).length<=20/\x.2.length<=2/\∀n∈x.2,0<=n/\n<=2:=by
 have:=List.mem_of_getElem? h;simp only[stp2,List.mem_cons,List.not_mem_nil,or_false]at this;rcases this with rfl|rfl|rfl|rfl<;>refine⟨by decide,by decide+kernel,by decide,by decide⟩
theorem anQ{w0 W:World}{g b:Nat}{L:List (Nat×Obj)}{x:Stp}{u:Value}(hT:T10 w0)(h:ConP w0 g b (esT.take q) L q W)(hx:stp2[q]? =some x)(hI:IntS W u x.2):
 Calls Tryz.prog 40 #[.pointer (some ⟨b,0,none⟩),.agg #[.string x.1,u]] W (fun e W'=>e=.returned (.string (tT q))/\ConP w0 g b (esT.take (q+1)) L (q+1) W'):=by
 match q,h,hx with
 |0,h,hx=>
  obtain rfl:=bjH hx;exact(alO (z:=2) hT h (by decide) (by decide) (by decide) hI).mono fun e W' ⟨h1,h2⟩=>⟨h1.trans (by kernel_rfl),h2⟩
 |1,h,hx=>
  obtain rfl:=bjH hx;exact(ahV (i:=0) hT h (by decide) (by decide) rfl hI).mono fun e W' ⟨h1,h2⟩=>⟨h1.trans (by kernel_rfl),h2⟩
 |2,h,hx=>
  obtain rfl:=bjH hx;exact(alP (i:=1) (j:=1) hT h (by decide) (by decide) rfl rfl hI).mono fun e W' ⟨h1,h2⟩=>⟨h1.trans (by kernel_rfl),h2⟩
 |3,h,hx=>
  obtain rfl:=bjH hx;exact(alQ (i:=2) (j:=0) hT h (by decide) (by decide) rfl rfl apQ (by decide) hI).mono fun e W' ⟨h1,h2⟩=>⟨h1.trans (by kernel_rfl),h2⟩
 |q+4,h,hx=>cases hx
theorem apS{w:World}{mx:Int}(hm:w.cell? ⟨1,0,none⟩=some (.int .i64 mx))(hT:T10 w)(hTb:Tab w)(htb:6<w.heap.size):
 Calls Tryz.prog 15 #[.string txt2] w (RetV w (.string ⟨(outT 4).toArray⟩)):=by
 have HP:=hdd (oG (s:=txt2) hm);rw[anO]at HP;have HT0:=hdd hT;have HTB:=hdd (And.intro hTb htb);clear hm hT hTb htb;go_enter Tryz.func15,Tryz.ntmps15
 go_wp2_with fail
 refine HP.out.mono ?_;rintro e w1⟨hb1,ls,rfl,hls⟩;obtain⟨p,c,hlse,hc⟩:=hls;replace hlse:ls=.slice p 4 c:=hlse;subst hlse;obtain⟨wB,hwB,hbB,hsB,bB⟩:=pro1 w1 (.cells #[.pointer none,.slice none 0 0] 48);have HNEW:=hdd (anL (l:=[(w1.heap.size,.cells #[.pointer none,.slice none 0 0] 48)]) hbB (fun q hq=>by
  obtain rfl:=bjL.1 hq;exact⟨bB,Nat.le_refl _⟩) (by simp) (HTB.out.1.below hb1) (Nat.lt_of_lt_of_le HTB.out.2 hb1.size))
 have HB1:=hdd hb1;have HT:=hdd (HT0.out.low hb1);have HC:=hdd hc;clear hb1 hc hbB hsB bB HP HTB;go_wp2_with fail
 refine HNEW.out.mono ?_;rintro e w2⟨g,b,rfl,hR⟩;have HST:Hid (∃lb,BldR w1.heap.size (outT 0) lb/\ConP w1 g b (esT.take 0) lb 0 w2):=hdd ⟨_,BldR.new _,ConP.new hR⟩;clear hR HNEW hwB;go_wp2_with fail
 go_loopw [37] (fun i wr=>∃q:Nat,q<=4/\i=.int .i64 (q:Int)/\Hid (∃lb,BldR w1.heap.size (outT q) lb/\ConP w1 g b (esT.take q) lb q wr)) (fun i _=>((4:Int)-intOf i).toNat)
 case atStart=>exact⟨0,Nat.zero_le _,rfl,HST⟩
 case round=>
  obtain⟨q,hq,rfl,HG⟩:=hrel;clear HST;rcases Nat.lt_or_ge q 4 with hlt|hge
  . obtain⟨x,hx⟩:∃x,stp2[q]? =some x:=⟨_,List.getElem?_eq_getElem hlt⟩
    obtain⟨lb,hB,hC⟩:=HG.out;obtain⟨sb,u,rfl,ca,cb,hI⟩:=HC.out q x hx;have hbl:=hC.below;replace ca:=cbl ca hbl;replace cb:=cbl cb hbl;obtain⟨p',c',rfl,-⟩:=id hI;have hqI:(q:Int)<4:=Int.ofNat_lt.2 hlt;have hq0:(0:Int)<=(q:Int):=Int.natCast_nonneg _;obtain⟨wa,hwa,hba,hsa,ba⟩:=pro1 wr (.cells #[.string x.1,.slice p' x.2.length c'] 27);obtain⟨y0,y1,-,-⟩:=aB ba;obtain⟨f1,f2,f3,f4⟩:=ahZ hx;have HCa:=hdd (hC.keep hba ba nlr);have HB:=hdd hB;have HJ:=hdd (abX (w:=wa) (HT.out.low (aA hbl hba)) f1 (hI.below (aA hbl hba)) (by omega) (by omega) fun k hk=>by have:=f4 k hk;omega);have HX:=hdd (And.intro hlt hx);have HI:=hdd hI;have hou:outT (q+1)=outT q++(([62,32]++joinL x.1 x.2++[10])++((tT q).data.toList++[10])):=by
     show outT q++(([62,32]++joinL (stp2.getD q (⟨#[]⟩,[])).1 (stp2.getD q (⟨#[]⟩,[])).2++[10])++((tT q).data.toList++[10]))=_;rw[List.getD_eq_getElem?_getD,hx];rfl
    have HOU:=hdd hou;obtain⟨J,hJ⟩:∃J:ByteArray,(⟨(joinL x.1 x.2).toArray⟩:ByteArray)=J:=⟨_,rfl⟩;have hJs:J.size<=20:=by rw[<-hJ];show(joinL x.1 x.2).toArray.size<=20;rw[List.size_toArray];exact f2
    have HJE:Hid (J.data.toList=joinL x.1 x.2):=hdd (by rw[<-hJ]);rw[hJ]at HJ;obtain⟨T,hTq⟩:∃T,tT q=T:=⟨_,rfl⟩;have hTs:T.size=1:=by rw[<-hTq];exact anP q
    have HTE:=hdd hTq;have j1:¬(9223372036854775807<2+J.size):=by omega
    have j2:¬(9223372036854775807<2+J.size+1):=by omega
    have j3:¬(9223372036854775807<T.size+1):=by omega
    have HLEN:=hdd (alZ (Nat.le_of_lt hlt));have HJS:=hdd (And.intro hJs hTs);clear hlt hx hB hC hbl hI hba hsa ba f1 f2 f3 f4 HG hq hou hJ hTq hJs hTs;go_wp2_with fail
    refine HJ.out.mono ?_;rintro e wb⟨rfl,hbb⟩;have HW1:=hdd (ConP.write (x:=⟨#[62,32]⟩++J++⟨#[10]⟩) (HCa.out.step hbb) HB.out (by rw[bjG,bjG];show 0<2+J.size+1;omega) (by have:=HLEN.out;have:=HJS.out;rw[bjG,bjG];show _+(2+J.size+1)<=_;omega));clear hbb y0 y1;go_wp2_with fail
    refine HW1.out.mono ?_;rintro e wc⟨rfl,lb1,hB1,hC1⟩;obtain⟨y0,y1,-,-⟩:=aB (hC1.at (bjJ _ (bjL.2 rfl)));have HB1:=hdd hB1;have HSP:=hdd (anQ HT.out hC1 HX.out.2 (HI.out.below hC1.below));rw[HTE.out]at HSP;clear hB1 hC1 HW1;go_wp2_with fail
    refine HSP.out.mono ?_;rintro e wd⟨rfl,hC2⟩;have HW2:=hdd (ConP.write (x:=T++⟨#[10]⟩) hC2 HB1.out (by rw[bjG];show 0<T.size+1;omega) (by
     have:=HLEN.out;have:=HJS.out;have e1:((⟨#[62,32]⟩++J++⟨#[10]⟩:ByteArray).data.toList).length=2+J.size+1:=by
      rw[Array.length_toList];show(⟨#[62,32]⟩++J++⟨#[10]⟩:ByteArray).size=_;rw[bjG,bjG];rfl
     rw[List.length_append,e1,bjG];show _+_+(T.size+1)<=_;omega))
    clear hC2 HSP y0 y1;go_wp2_with fail
    refine HW2.out.mono ?_;rintro e we⟨rfl,lb2,hB2,hC3⟩;have HNX:Hid (∃lb,BldR w1.heap.size (outT (q+1)) lb/\ConP w1 g b (esT.take (q+1)) lb (q+1) we):=hdd ⟨lb2,by
     rw[HOU.out,<-HJE.out,HTE.out];simpa[bjM]using hB2,hC3.subl (List.sublist_append_left _ _)⟩
    clear hB2 hC3 HW2;go_wp2_with fail
    go_roundw
    case rel=>exact⟨q+1,HX.out.1,by go_num,HNX⟩
    case measure=>exact fE HX.out.1
  . obtain rfl:q=4:=Nat.le_antisymm hq hge
    obtain⟨lb,hB,hC⟩:=HG.out;have hC':ConP w1 g b (esT.take 4) (lb++[]) 4 wr:=by rw[List.append_nil];exact hC
    have HSR:=hdd (Tryz.Builder_String_any _ _ _ _ (hC'.bld hB) hC.below.size);have HBL:=hdd hC.below;clear hB hC hC' HG hq hge;go_wp2_with fail
    refine HSR.out.mono ?_;rintro e wz⟨rfl,hbz⟩;have HF:=hdd (aA HB1.out (HBL.out.trans hbz));clear hbz;go_wp2;go_ret;exact⟨rfl,HF.out⟩
end
section
open Go.RowKit
open Go.Lib renaming itoa->bjP,hasPrefix->bjT,trimB->bjU
open List renaming mem_cons_self->bjN,intercalate->bjO,mem_cons_of_mem->bjQ,mem_cons->bjR,mem_append->bjS
variable{xs:List Int}{v:Value}{w:World}
theorem yO{b:UInt8}:∀{ws:List (List UInt8)},b∈[32].intercalate ws->b=32\/∃w∈ws,b∈w
 |[],h=>by simp[bjO]at h
 |[w],h=>Or.inr ⟨w,bjN ..,by simpa[bjO]using h⟩
 |w::v::t,h=>by
  have e:[32].intercalate (w::v::t)=w++32::[32].intercalate (v::t):=by simp[bjO]
  rw[e]at h;rcases bjS.1 h with h|h
  . exact Or.inr ⟨w,bjN ..,h⟩
  . rcases bjR.1 h with h|h
    . exact Or.inl h
    . rcases yO h with h|⟨u,hu,h⟩
      . exact Or.inl h
      . exact Or.inr ⟨u,bjQ _ hu,h⟩
theorem ah0:∀p∈wTab,p.1≠[]/\∀b∈p.1,97<=b.toNat/\b.toNat<=122:=by decide
theorem lI{x:ByteArray}(h:dE x xs=true):∀w∈x.data.toList::xs.map bjP,w≠[]/\∀b∈w,WdB b/\b≠10:=by
 obtain⟨-,-,-,-,p,hp,rfl,-⟩:=kY h;intro w hw;rcases bjR.1 hw with rfl|hw
 . obtain⟨h1,h2⟩:=ah0 p hp
   refine⟨by simpa using h1,fun b hb=> ?_⟩;have:=h2 b (by simpa using hb);exact⟨⟨by omega,by omega⟩,fun e=>by subst e;simp at this⟩
 . obtain⟨n,-,rfl⟩:=List.mem_map.1 hw
   obtain⟨h1,h2⟩:=adO n;refine⟨h1,fun b hb=> ?_⟩;have:=h2 b hb;exact⟨⟨by omega,by omega⟩,fun e=>by subst e;simp at this⟩
theorem yP:∀{xs:List Int},(∀n∈xs,inR n=true)->numsL ((xs.map bjP).map fun l:List UInt8=>⟨l.toArray⟩)=some xs
 |[],_=>rfl
 |n::xs,h=>by
  have hn:=h n (bjN ..);unfold inR at hn;simp only[Bool.and_eq_true,decide_eq_true_eq]at hn;have ih:=yP fun m hm=>h m (bjQ _ hm);show(match numL (⟨(bjP n).toArray⟩:ByteArray).data.toList with
   |none=>none
   |some n=>(numsL ((xs.map bjP).map fun l:List UInt8=>⟨l.toArray⟩)).map (n:: ·))=_
  rw[show(⟨(bjP n).toArray⟩:ByteArray).data.toList=bjP n from rfl,agE hn,ih];rfl
theorem ac0{x s:ByteArray}{k:Nat}(h:dE x xs=true)(hs:s.data.toList=List.replicate k 32++joinL x xs):gX s=some (x,xs):=by
 have hf:=fields_of hs (by simp) fun w hw=>⟨(lI h w hw).1,fun b hb=>((lI h w hw).2 b hb).1⟩;rw[List.map_cons]at hf;have hf2:Lib.goFieldsP aW s=x::((xs.map bjP).map fun l:List UInt8=>⟨l.toArray⟩):=hf;rw[vI hf2,yP (kY h).1];simp only[h,if_true]
theorem anR{l:List ByteArray}{L:List (List UInt8)}(h:l.map (fun b=>b.data.toList)=L):l=L.map fun x=>⟨x.toArray⟩:=by
 subst h;rw[List.map_map];exact(List.map_id _).symm
theorem ac1{s x:ByteArray}(h:dE x xs=true)(hs:s.data.toList=[32,32]++(joinL x xs++[10])++[10,32,32,32,10,35]):lX s=.inl [(x,xs)]:=by
 obtain⟨J,hJ⟩:∃J,joinL x xs=J:=⟨_,rfl⟩;have hlen:J.length<=1000:=by rw[<-hJ];have:(joinL x xs).length<=70:=qB (x:=(x,xs)) h;omega
 have hsz:s.size=J.length+9:=by
  rw[show s.size=s.data.toList.length from(Array.length_toList ..).symm,hs,hJ];simp
 have h10:(10:UInt8)∉J:=by
  rw[<-hJ];intro hm;rcases yO hm with e|⟨w,hw,hb⟩
  . exact absurd e (by decide)
  . exact((lI h w hw).2 _ hb).2 rfl
 have hl:oF s=[⟨([32,32]++J).toArray⟩,⟨#[]⟩,⟨#[32,32,32]⟩,⟨#[35]⟩]:=by
  have e:s.data.toList=[10].intercalate [[32,32]++J,[],[32,32,32],[35]]:=by rw[hs,hJ];simp[bjO]
  have h1:=Lib.splitB_data ⟨#[10]⟩ 0 (Lib.countB s ⟨#[10]⟩) s;have h2:=rX [[32,32]++J,[],[32,32,32],[35]] (by simp) (by
   intro l hl;simp only[bjR,List.not_mem_nil,or_false]at hl;rcases hl with rfl|rfl|rfl|rfl
   . intro hm
     rcases bjS.1 hm with hm|hm
     . exact absurd hm (by decide)
     . exact h10 hm
   . decide
   . decide
   . decide)
  rw[<-e]at h2;exact anR (h1.trans h2)
 have hp:gX ⟨([32,32]++J).toArray⟩=some (x,xs):=ac0 (k:=2) h (by rw[hJ];rfl);have h0:jR ⟨([32,32]++J).toArray⟩=false:=by
  show(bjT ([32,32]++J) [35]||(bjU ([32,32]++J) 32).isEmpty)=false;rw[show bjT ([32,32]++J) [35]=false from rfl,Bool.false_or];obtain⟨h1,h2⟩:=lI h x.data.toList (bjN ..);obtain⟨b,t,e⟩:=List.exists_cons_of_ne_nil h1;have hb:=(h2 b (by rw[e];exact bjN ..)).1.2;have hm:b∈J:=by
   rw[<-hJ];unfold joinL;rw[e];rcases xs with _|⟨n,xs⟩<;>simp[bjO]
  have:=agF (l:=[32,32]++J) (List.mem_append_right _ hm) (fun e=>hb (by rw[e];rfl));rcases ht:bjU ([32,32]++J) 32 with _|⟨c,d⟩
  . exact absurd ht this
  . rfl
 have h1:jR ⟨#[]⟩=true:=by kernel_rfl
 have h2:jR ⟨#[32,32,32]⟩=true:=by kernel_rfl
 have h3:jR ⟨#[35]⟩=true:=by kernel_rfl
 unfold lX;rw[if_neg (by omega),hl];simp only[runL,h0,h1,h2,h3,hp,if_true,Bool.false_eq_true,if_false,List.length_nil,List.nil_append];rfl
theorem same_eq{x:ByteArray}{v':Value}(hv:IntS w v xs)(hv':IntS w v' xs)(hl:xs.length<=1000000):Calls Tryz.prog 14 #[.agg #[.string x,v],.agg #[.string x,v']] w (RetV w (.bool true)):=by
 obtain⟨p,c,rfl,h1,h2,hc⟩:=id hv;obtain⟨p',c',rfl,h1',h2',hc'⟩:=id hv';obtain⟨w1,hw1,hb1,hs1,b1,b2⟩:=pro2 w (.cells #[.string x,.slice p xs.length c] 27) (.cells #[.string x,.slice p' xs.length c'] 27);obtain⟨c0,c1,-,-⟩:=aB b1;obtain⟨d0,d1,-,-⟩:=aB b2;have HV:=hdd (hv.below hb1);have HV':=hdd (hv'.below hb1);have HB:=hdd hb1;have B1:=hdd b1;have B2:=hdd b2;obtain⟨n,hn⟩:∃n,xs.length=n:=⟨_,rfl⟩;have HN:=hdd hn;rw[hn]at hl c1 d1 B1 B2 HV HV' hw1|-;have hlI:(n:Int)<=1000000:=by omega
 clear hv hv' hc hc' hb1 hs1 b1 b2 h1 h2 h1' h2' hn hl;go_enter Tryz.func14,Tryz.ntmps14
 go_wp2_with fail
 clear hw1
 go_loopw [5] (fun i wr=>∃m:Nat,m<=n/\i=.int .i64 (m:Int)/\Hid (Below w1.heap.size w1 wr)) (fun i _=>((n:Int)-intOf i).toNat)
 case atStart=>exact⟨0,Nat.zero_le _,rfl,hdd (Below.refl _ _)⟩
 case round=>
  obtain⟨m,hm,rfl,HG⟩:=hrel;obtain⟨c0,c1,-,-⟩:=aB (hbl B1.out HG.out);obtain⟨d0,d1,-,-⟩:=aB (hbl B2.out HG.out);rcases Nat.lt_or_ge m n with hlt|hge
  . obtain⟨y,hy⟩:∃y,xs[m]? =some y:=⟨_,List.getElem?_eq_getElem (by rw[HN.out];exact hlt)⟩
    obtain⟨q,k,e,-,-,hcc⟩:=HV.out.below HG.out;obtain⟨b,o,rfl,ca⟩:=hcc m y hy;simp only[Value.slice.injEq]at e;obtain⟨rfl,-,-⟩:=e;obtain⟨q',k',e,-,-,hcc'⟩:=HV'.out.below HG.out;obtain⟨b',o',rfl,ca'⟩:=hcc' m y hy;simp only[Value.slice.injEq]at e;obtain⟨rfl,-,-⟩:=e;have hmI:(m:Int)<(n:Int):=Int.ofNat_lt.2 hlt;have hm0:(0:Int)<=(m:Int):=Int.natCast_nonneg _;have HLT:=hdd hlt;clear hcc hcc' hlt hm hy;go_wp2_with fail
    go_quiet (fail)
    have HNX:=hdd (aA HG.out (below_drewN wr nq));clear HG c0 c1 d0 d1 ca ca';go_wp2_with fail
    go_roundw
    case rel=>exact⟨m+1,HLT.out,by go_num,HNX⟩
    case measure=>exact fE HLT.out
  . obtain rfl:m=n:=Nat.le_antisymm hm hge
    have HF:=hdd (aA HB.out HG.out);clear HG hm hge;go_wp2;go_ret;exact⟨rfl,HF.out⟩
theorem ah1{x:ByteArray}{b:Nat}(hb:w.heap[b]? =some (.cells #[.string x,v] 27 (0,0)))(hv:IntS w v xs):Calls Tryz.prog 5 #[.slice (some ⟨b,0,none⟩) 1 1] w (RetV w (.bool (decide (x.size<=40)&&decide (xs.length<=20)))):=by
 obtain⟨p,c,rfl,-⟩:=id hv;obtain⟨c0,c1,-,-⟩:=aB hb;obtain⟨n,hn⟩:∃n,xs.length=n:=⟨_,rfl⟩;rw[hn]at c1|-;clear hb hv hn;rcases Nat.lt_or_ge 40 x.size with h|h
 . rw[decide_eq_false (p:=x.size<=40) (by omega),Bool.false_and]
   have hI:(40:Int)<(x.size:Int):=by omega
   clear h;go_enter Tryz.func5,Tryz.ntmps5
   go_wp2_with fail
   refine wp_loop_rounds 1 ?_;rw[rounds_succ];go_wp2;go_ret;exact⟨rfl,Below.refl _ _⟩
 . rw[decide_eq_true (p:=x.size<=40) h,Bool.true_and]
   have hI:¬(40:Int)<(x.size:Int):=by omega
   clear h;rcases Nat.lt_or_ge 20 n with h|h
   . rw[decide_eq_false (p:=n<=20) (by omega)]
     have hI2:(20:Int)<(n:Int):=by omega
     clear h;go_enter Tryz.func5,Tryz.ntmps5
     go_wp2_with fail
     refine wp_loop_rounds 1 ?_;rw[rounds_succ];go_wp2;go_ret;exact⟨rfl,Below.refl _ _⟩
   . rw[decide_eq_true (p:=n<=20) h]
     have hI2:¬(20:Int)<(n:Int):=by omega
     clear h;go_enter Tryz.func5,Tryz.ntmps5
     go_wp2_with fail
     refine wp_loop_rounds 2 ?_;rw[rounds_succ];go_wp2_with fail
     rw[rounds_succ];go_wp2;go_ret;exact⟨rfl,Below.refl _ _⟩
end
end Go.Proofs.YtigoiiekebccnaaGreatDoor
