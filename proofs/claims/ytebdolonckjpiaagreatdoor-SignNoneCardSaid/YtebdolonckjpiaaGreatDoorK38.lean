/- A part of the proof: contracts of functions and plain laws (DgA, AlvN, AlvO, SgN). -/
import Derived.Test.YtebdolonckjpiaaGreatDoorK37
import Derived.Test.YtebdolonckjpiaaGreatDoorK18
import Derived.Test.YtebdolonckjpiaaGreatDoorK34
import Derived.Test.YtebdolonckjpiaaGreatDoorK19
set_option linter.unusedVariables false
set_option linter.unusedSimpArgs false
set_option maxHeartbeats 25600000
set_option maxRecDepth 100000
namespace Go.Proofs.YtebdolonckjpiaaGreatDoor
open Go.RowKit Go.Maps Go.Stop Go.Extern
section
variable{s:Bs}{W:World}{g N i j b v:Nat}{K:List (Ex×Nat)}{l:List (Nat×Obj)}{x y:Ex}{p:Nat×Obj}
theorem Run.tail (h:Run s g N K (p::l) W):Run s g N K l W:=h.sub (fun _ hq=>List.mem_cons_of_mem _ hq) (List.nodup_cons.1 (by have:=h.nodup;rwa[List.map_cons]at this)).2
theorem Run.dleaf (h:Run s g N K l W)(hN:N<20000)(hv:v<18446744073709551616)(hf:fin v):Calls Tryz.prog 64 #[.pointer (some ⟨g,0,none⟩),.float .f64 v] W (RtO s g (N+1) K l (.leaf v)):=by
 obtain⟨ns,hs,hK⟩:=h;exact(ah4 hs.st hN hv hf trivial).mono fun _ _ hr=>o8 hs hK hr
theorem Run.dsub (h:Run s g N K l W)(hN:N<20000)(hx:(x,i)∈K)(hy:(y,j)∈K):Calls Tryz.prog 33 #[.pointer (some ⟨g,0,none⟩),.int .i64 (i:Int),.int .i64 (j:Int)] W (RtO s g (N+1) K l (.sub x y)):=by
 obtain⟨ns,hs,hK⟩:=h;exact(akH hs.st hN (hK _ hx) (hK _ hy) trivial).mono fun _ _ hr=>o8 hs hK hr
theorem Run.ddiv (h:Run s g N K l W)(hN:N<20000)(hx:(x,i)∈K)(hy:(y,j)∈K):Calls Tryz.prog 36 #[.pointer (some ⟨g,0,none⟩),.int .i64 (i:Int),.int .i64 (j:Int)] W (RtO s g (N+1) K l (.div x y)):=by
 obtain⟨ns,hs,hK⟩:=h;exact(aoM hs.st hN (hK _ hx) (hK _ hy) trivial).mono fun _ _ hr=>o8 hs hK hr
theorem Run.droot (h:Run s g N K l W)(hN:N<20000)(hx:(x,i)∈K):Calls Tryz.prog 32 #[.pointer (some ⟨g,0,none⟩),.int .i64 (i:Int)] W (RtO s g (N+1) K l (.root x)):=by
 obtain⟨ns,hs,hK⟩:=h;exact(aoG hs.st hN (hK _ hx) trivial).mono fun _ _ hr=>o8 hs hK hr
theorem Run.ints2 {ns:List Nd}(hs:Stg PT s.B N s.w g s.ns W ns l)(hb:(b,.cells #[.int .i64 (i:Int),.int .i64 (j:Int)] 3)∈l):IntsD g W (.slice (some ⟨b,0,none⟩) 2 2) [i,j]:=by
 obtain⟨h1,h2,-⟩:=hs.kept _ hb;refine⟨b,2,rfl,Nat.le_refl _,by decide,h2,aH h1,fun k x hx=> ?_⟩
 match k,hx with
 |0,hx=>obtain rfl:i=x:=by simpa using hx
        exact oQ h1 rfl
 |1,hx=>obtain rfl:j=x:=by simpa using hx
        exact oQ h1 rfl
theorem Run.dadd (h:Run s g N K l W)(hN:N<20000)(hx:(x,i)∈K)(hy:(y,j)∈K)(hb:(b,.cells #[.int .i64 (i:Int),.int .i64 (j:Int)] 3)∈l):Calls Tryz.prog 35 #[.pointer (some ⟨g,0,none⟩),.slice (some ⟨b,0,none⟩) 2 2] W (RtO s g (N+1) K l (.add x y)):=by
 obtain⟨ns,hs,hK⟩:=h;refine(ah8 (es:=[y]) hs.st (Run.ints2 hs hb) rfl (by simp) (hK _ hx) (fun m x' e h1 h2=> ?_) (fun _ _=>trivial) (by show N+1<=20000;omega)).mono fun _ _ hr=>o8 hs hK hr
 match m,h1,h2 with
 |0,h1,h2=>
  obtain rfl:j=x':=by simpa using h1
  obtain rfl:y=e:=by simpa using h2
  exact hK _ hy
theorem Run.dmul (h:Run s g N K l W)(hN:N<20000)(hx:(x,i)∈K)(hy:(y,j)∈K)(hb:(b,.cells #[.int .i64 (i:Int),.int .i64 (j:Int)] 3)∈l):Calls Tryz.prog 34 #[.pointer (some ⟨g,0,none⟩),.slice (some ⟨b,0,none⟩) 2 2] W (RtO s g (N+1) K l (.mul x y)):=by
 obtain⟨ns,hs,hK⟩:=h;refine(ah9 (es:=[y]) hs.st (Run.ints2 hs hb) rfl (by simp) (hK _ hx) (fun m x' e h1 h2=> ?_) (fun _ _=>trivial) (by show N+1<=20000;omega)).mono fun _ _ hr=>o8 hs hK hr
 match m,h1,h2 with
 |0,h1,h2=>
  obtain rfl:j=x':=by simpa using h1
  obtain rfl:y=e:=by simpa using h2
  exact hK _ hy
theorem Run.dint {z:Int}(h:Run s g N K l W)(hN:N<20000)(hz:0<=z/\z<=1000):Calls Tryz.prog 31 #[.pointer (some ⟨g,0,none⟩),.int .i64 z] W (RtO s g (N+1) K l (li z)):=by
 have hf:=qM (k:=z) (by omega);have HL:=hdd (h.dleaf hN hf.1 hf.2.1);have h1:decide (z< -9007199254740992)=false:=decide_eq_false (by omega);have h2:decide (z>9007199254740992)=false:=decide_eq_false (by omega);have h3:decide (9007199254740992<z)=false:=h2;have hc:floatOfInt FloatKind.f64 z=fl z:=rfl;clear h hN hz hf;go_enter Tryz.func31,Tryz.ntmps31
 go_wp2_with fail
 refine HL.out.mono ?_;rintro e w2⟨k,rfl,hR⟩;have HR:=hdd hR;clear hR;go_wp2;go_ret;exact⟨k,rfl,HR.out⟩
end
end Go.Proofs.YtebdolonckjpiaaGreatDoor
namespace Go.Proofs.YtebdolonckjpiaaGreatDoor
open Go.RowKit Go.Maps Go.Stop Go.Extern
open Re (rat)
variable{x:Ex}{kk:Int}{K:List (Ex×Nat)}{l:List (Nat×Obj)}{N g i:Nat}{W:World}
theorem Fit.fine {L:List Ex}{s:Sh}{a:Ex}{x:Re}(h:Fit L s a x)(hs:(s.ok L.length&&s.top L.length)=true):Fine a/\Gd L.length 11 a x:=by
 rw[Bool.and_eq_true]at hs;have h1:=h hs.1;exact⟨⟨⟨x,(h1.good hs.2).den⟩,h1.gd⟩,h1.good hs.2⟩
theorem aoO{B:Nat}{w:World}{k:Nat}{ns:List Nd}{e:Ex}(hs:St PT B N w g ns)(hi:Is ns e k)(h:BadE e kk):Calls Tryz.prog 27 #[.pointer (some ⟨g,0,none⟩),.int .i64 (k:Int),.slice none 0 0] w (anX w (.int .i64 0) kk):=
 an7 hs.dag (alA hs.all) (afX hs.all) (afY hs.all) hi h hs.tab
theorem Run.dbad {s:Bs}(h:Run s g N K l W)(hx:(x,i)∈K)(hb:BadE x kk):Calls Tryz.prog 27 #[.pointer (some ⟨g,0,none⟩),.int .i64 (i:Int),.slice none 0 0] W (anX W (.int .i64 0) kk):=by
 obtain⟨ns,hs,hK⟩:=h;exact aoO hs.st (hK _ hx) hb
theorem Run.dsign {s:Bs}{q:Int}(h:Run s g N K l W)(hx:(x,i)∈K)(hS:gY PT x q):Calls Tryz.prog 27 #[.pointer (some ⟨g,0,none⟩),.int .i64 (i:Int),.slice none 0 0] W (RtA s g N K l (.tuple #[.int .i64 q,.nilIface])):=by
 obtain⟨ns,hs,hK⟩:=h;exact(hS _ _ _ _ _ _ hs.st (hK _ hx)).mono fun _ _ hr=>⟨hr.1,ns,hs.below hr.2,hK⟩
abbrev aoA:Ex:=.add (.root (li 2)) (.root (li 3))
abbrev aoB:Ex:=.add (li 5) (.mul (li 2) (.root (li 6)))
theorem aoP(x y:Re):(x+y)*(x+y)-(rat 5+rat 2*(x*y))=(x*x-rat 2)+(y*y-rat 3):=by revert x y;exact Re.all2 fun a b=>Re.same fun n=>by simp only[Re.addC_f,Re.mulC_f,Re.negC_f,Re.ratC_f];grind
theorem aoX(x y:Re):(x*y)*(x*y)=(x*x)*(y*y):=by revert x y;exact Re.all2 fun a b=>Re.same fun n=>by simp only[Re.addC_f,Re.mulC_f,Re.negC_f,Re.ratC_f];grind
theorem aoY(x y:Re):(rat 5+rat 2*(x*y))-(x+y)=(rat 1+rat 2*(x*y))+((rat 2-x)+(rat 2-y)):=by revert x y;exact Re.all2 fun a b=>Re.same fun n=>by simp only[Re.addC_f,Re.mulC_f,Re.negC_f,Re.ratC_f];grind
theorem ao0:gY PT (.sub (.mul aoA aoA) aoB) 0/\gY PT (.sub aoB aoA) 1/\BadE (.div aoA (.sub aoB aoB)) 2:=by
 have nn:∀{n:Int},0<=n->(0:Re)<=rat (n:Rat):=fun h=>by rw[Re.zero_rat,Re.rat_le];exact Rat.intCast_le_intCast.2 h
 obtain⟨x,hx,ex⟩:=Re.exists_sqrt (nn (show(0:Int)<=2 by decide));obtain⟨y,hy,ey⟩:=Re.exists_sqrt (nn (show(0:Int)<=3 by decide));obtain⟨L,hL⟩:∃L:List Ex,L=[.root (li 2),.root (li 3),.root (li 6)]:=⟨_,rfl⟩;have l3:L.length=3:=by rw[hL];rfl
 have e2:((2:Int):Rat)=2:=by norm_cast
 have e3:((3:Int):Rat)=3:=by norm_cast
 have e5:((5:Int):Rat)=5:=by norm_cast
 have f2:=anW (L:=L) (k:=2) 2 (by decide) (by decide);have f3:=anW (L:=L) (k:=3) 2 (by decide) (by decide);have f5:=anW (L:=L) (k:=5) 3 (by decide) (by decide);have f6:=anW (L:=L) (k:=6) 3 (by decide) (by decide);have e6:(x*y)*(x*y)=rat ((6:Int):Rat):=by
  rw[aoX,ex,ey,<-Re.rat_mul,<-Rat.intCast_mul];rfl
 have X:=Fit.root f2 hx ex (by rw[hL];simp);have Y:=Fit.root f3 hy ey (by rw[hL];simp);have Z:=Fit.root f6 (Re.mul_nonneg hx hy) e6 (by rw[hL];simp);have S:=Fit.add X Y;have T:=Fit.add f5 (Fit.mul f2 Z);rw[e2]at ex T;rw[e3]at ey;rw[e5]at T;have h1:=(Fit.sub (Fit.mul S S) T).sgn (P:=PT) (by rw[l3];decide+kernel);have h2:=(Fit.sub T S).sgn (P:=PT) (by rw[l3];decide+kernel);have h3:=(Fit.sub T T).fine (by rw[l3];decide+kernel);have h4:=S.fine (by rw[l3];decide+kernel);have z0:(x+y)*(x+y)-(rat 5+rat 2*(x*y))=0:=by rw[aoP,ex,ey,Re.sub_self,Re.sub_self,Re.add_zero]
 have lt2:∀{z:Re} {q:Rat},0<=z->z*z=rat q->q<4->z<rat 2:=fun{z q} hz hq h=>by
  rcases Re.lt_or_ge z (rat 2)with k|k
  . exact k
  . have h0:(0:Re)<=rat 2:=by rw[Re.zero_rat,Re.rat_le];decide
    have h5:=Re.mul_le_mul h0 k h0 k;rw[hq,<-Re.rat_mul,Re.rat_le]at h5;exfalso;have:(2:Rat)*2=4:=by grind
    rw[this]at h5;exact absurd h (Rat.not_lt.2 h5)
 have p0:0<(rat 5+rat 2*(x*y))-(x+y):=by
  rw[aoY];have q1:(0:Re)<rat 1:=by rw[Re.zero_rat,Re.rat_lt];decide
  have q2:(0:Re)<=rat 2*(x*y):=Re.mul_nonneg (by rw[Re.zero_rat,Re.rat_le];decide) (Re.mul_nonneg hx hy);have q3:=Re.sub_pos.2 (lt2 hx ex (by decide));have q4:=Re.sub_pos.2 (lt2 hy ey (by decide));have q5:=Re.add_lt_add q3 q4;rw[Re.add_zero]at q5;have q6:(0:Re)<rat 1+rat 2*(x*y):=by
   have:=Re.add_le_add (Re.le_refl (rat 1)) q2;rw[Re.add_zero]at this;exact Re.lt_of_lt_of_le q1 this
  have:=Re.add_lt_add q6 q5;rwa[Re.add_zero]at this
 rw[z0,Re.sgn_zero]at h1;rw[Re.sgn_pos p0]at h2;refine⟨h1,h2,Or.inl ⟨_,_,L.length,11,rfl,rfl,h4.1,h3.1,?_⟩⟩;have:=h3.2;rwa[Re.sub_self]at this
end Go.Proofs.YtebdolonckjpiaaGreatDoor
namespace Go.Proofs.YtebdolonckjpiaaGreatDoor
open Go.RowKit Go.Maps Go.Stop Go.Extern
theorem aoQ{w:World}(hT:Tab w)(htb:0<w.heap.size):
 Calls Tryz.prog 26 #[] w (RetV w (.bool true)):=by
 have HN:=hdd (adI (l:=[]) (Below.refl w.heap.size w) (fun p hp=>by cases hp) (by simp) hT htb);clear hT htb;have HX:=hdd ao0;go_enter Tryz.func26,Tryz.ntmps26
 go_wp2_with fail
 refine HN.out.mono ?_;rintro e W1⟨g,rfl,hR⟩;have R0:=hdd hR;clear hR HN;dsimp only;go_wp2_with fail
 refine(Run.dint (z:=2) R0.out (by omega) (by decide)).mono ?_;rintro e w1⟨k1,rfl,hR⟩;have R1:=hdd hR;clear hR R0;go_wp2_with fail
 refine(Run.droot R1.out (by omega) (by repeat (first|exact .head _|apply List.Mem.tail))).mono ?_;rintro e w2⟨k2,rfl,hR⟩;have R2:=hdd hR;clear hR R1;go_wp2_with fail
 refine(Run.dint (z:=3) R2.out (by omega) (by decide)).mono ?_;rintro e w3⟨k3,rfl,hR⟩;have R3:=hdd hR;clear hR R2;go_wp2_with fail
 refine(Run.droot R3.out (by omega) (by repeat (first|exact .head _|apply List.Mem.tail))).mono ?_;rintro e w4⟨k4,rfl,hR⟩;have R4:=hdd hR;clear hR R3;obtain⟨w5,hw5,-,-,-⟩:=pro1 w4 (.cells #[.int .i64 (k2:Int),.int .i64 (k4:Int)] 3);have R5:=hdd (hw5▸Run.alloc R4.out (.cells #[.int .i64 (k2:Int),.int .i64 (k4:Int)] 3));clear R4;go_wp2_with fail
 refine(Run.dadd R5.out (by omega) (by repeat (first|exact .head _|apply List.Mem.tail)) (by repeat (first|exact .head _|apply List.Mem.tail)) (.head _)).mono ?_;rintro e w6⟨k6,rfl,hR⟩;have R6:=hdd hR;clear hR R5;replace R6:=hdd (Run.tail R6.out);go_wp2_with fail
 refine(Run.dint (z:=5) R6.out (by omega) (by decide)).mono ?_;rintro e w7⟨k7,rfl,hR⟩;have R7:=hdd hR;clear hR R6;go_wp2_with fail
 refine(Run.dint (z:=2) R7.out (by omega) (by decide)).mono ?_;rintro e w8⟨k8,rfl,hR⟩;have R8:=hdd hR;clear hR R7;go_wp2_with fail
 refine(Run.dint (z:=6) R8.out (by omega) (by decide)).mono ?_;rintro e w9⟨k9,rfl,hR⟩;have R9:=hdd hR;clear hR R8;go_wp2_with fail
 refine(Run.droot R9.out (by omega) (by repeat (first|exact .head _|apply List.Mem.tail))).mono ?_;rintro e w10⟨k10,rfl,hR⟩;have R10:=hdd hR;clear hR R9;obtain⟨w11,hw11,-,-,-⟩:=pro1 w10 (.cells #[.int .i64 (k8:Int),.int .i64 (k10:Int)] 3);have R11:=hdd (hw11▸Run.alloc R10.out (.cells #[.int .i64 (k8:Int),.int .i64 (k10:Int)] 3));clear R10;go_wp2_with fail
 refine(Run.dmul R11.out (by omega) (by repeat (first|exact .head _|apply List.Mem.tail)) (by repeat (first|exact .head _|apply List.Mem.tail)) (.head _)).mono ?_;rintro e w12⟨k12,rfl,hR⟩;have R12:=hdd hR;clear hR R11;replace R12:=hdd (Run.tail R12.out);obtain⟨w13,hw13,-,-,-⟩:=pro1 w12 (.cells #[.int .i64 (k7:Int),.int .i64 (k12:Int)] 3);have R13:=hdd (hw13▸Run.alloc R12.out (.cells #[.int .i64 (k7:Int),.int .i64 (k12:Int)] 3));clear R12;go_wp2_with fail
 refine(Run.dadd R13.out (by omega) (by repeat (first|exact .head _|apply List.Mem.tail)) (by repeat (first|exact .head _|apply List.Mem.tail)) (.head _)).mono ?_;rintro e w14⟨k14,rfl,hR⟩;have R14:=hdd hR;clear hR R13;replace R14:=hdd (Run.tail R14.out);obtain⟨w15,hw15,-,-,-⟩:=pro1 w14 (.cells #[.int .i64 (k6:Int),.int .i64 (k6:Int)] 3);have R15:=hdd (hw15▸Run.alloc R14.out (.cells #[.int .i64 (k6:Int),.int .i64 (k6:Int)] 3));clear R14;go_wp2_with fail
 refine(Run.dmul R15.out (by omega) (by repeat (first|exact .head _|apply List.Mem.tail)) (by repeat (first|exact .head _|apply List.Mem.tail)) (.head _)).mono ?_;rintro e w16⟨k16,rfl,hR⟩;have R16:=hdd hR;clear hR R15;replace R16:=hdd (Run.tail R16.out);go_wp2_with fail
 refine(Run.dsub R16.out (by omega) (by repeat (first|exact .head _|apply List.Mem.tail)) (by repeat (first|exact .head _|apply List.Mem.tail))).mono ?_;rintro e w17⟨k17,rfl,hR⟩;have R17:=hdd hR;clear hR R16;go_wp2_with fail
 refine(Run.dsign R17.out (.head _) HX.out.1).mono ?_;rintro e w18⟨rfl,hR⟩;have R18:=hdd hR;clear hR R17;go_wp2_with fail
 refine(Run.dsub R18.out (by omega) (by repeat (first|exact .head _|apply List.Mem.tail)) (by repeat (first|exact .head _|apply List.Mem.tail))).mono ?_;rintro e w19⟨k19,rfl,hR⟩;have R19:=hdd hR;clear hR R18;go_wp2_with fail
 refine(Run.dsign R19.out (.head _) HX.out.2.1).mono ?_;rintro e w20⟨rfl,hR⟩;have R20:=hdd hR;clear hR R19;go_wp2_with fail
 refine(Run.dsub R20.out (by omega) (by repeat (first|exact .head _|apply List.Mem.tail)) (by repeat (first|exact .head _|apply List.Mem.tail))).mono ?_;rintro e w21⟨k21,rfl,hR⟩;have R21:=hdd hR;clear hR R20;go_wp2_with fail
 refine(Run.ddiv R21.out (by omega) (by repeat (first|exact .head _|apply List.Mem.tail)) (by repeat (first|exact .head _|apply List.Mem.tail))).mono ?_;rintro e w22⟨k22,rfl,hR⟩;have R22:=hdd hR;clear hR R21;go_wp2_with fail
 have HB:=hdd (Run.below R22.out);refine(Run.dbad R22.out (.head _) HX.out.2.2).mono ?_;rintro e wa⟨er,n,rfl,hn,he,hb⟩;have HC:=hdd (an5 he (by omega));have HB2:=hdd (aB HB.out hb);obtain⟨vt,vx,rfl⟩:=he.iface;clear hn he hb R22 HX;go_wp2_with fail
 refine HC.out.mono ?_;rintro e wb⟨rfl,hb⟩;have HB3:=hdd (aB HB2.out hb);clear hb;go_wp2;go_ret;exact⟨rfl,HB3.out⟩
def Out(w:World)(p:Option Addr)(id:Int):Prop:=p=none\/∃g,p=some ⟨g,0,none⟩/\DagP w g []
theorem Out.below {w w':World}{p:Option Addr}{id:Int}(h:Out w p id)(hb:Below w.heap.size w w'):Out w' p id:=by
 rcases h with rfl|⟨g,rfl,h⟩
 . exact Or.inl rfl
 . exact Or.inr ⟨g,rfl,h.below hb⟩
section
variable{w:World}{p:Option Addr}{id:Int}
theorem aoR(h:Out w p id):Calls Tryz.prog 141 #[.pointer p,.int .i64 id] w (fun e w'=>e=.returned (.bool false)/\w=w'):=by
 rcases h with rfl|⟨g,rfl,hd⟩
 . go_enter Tryz.func141,Tryz.ntmps141
   go_wp2;go_ret;exact⟨rfl,rfl⟩
 . obtain⟨A,c,c0,-,-,-⟩:=hd.slice
   have hne:(binOp .neq 24 (.pointer (some ⟨g,0,none⟩)) (.pointer none)).run Tryz.prog w=.ok (.bool true) w:=by kernel_rfl
   clear hd;simp only[List.length_nil]at c0;rcases(by omega:id<0\/0<=id)with hi|hi
   . have h1:decide (0<=id)=false:=decide_eq_false (by omega)
     have h2:decide (id>=0)=false:=h1;go_enter Tryz.func141,Tryz.ntmps141
     go_wp2;go_ret;exact⟨rfl,rfl⟩
   . have h1:decide (0<=id)=true:=decide_eq_true (by omega)
     have h2:decide (id>=0)=true:=h1;have h3:decide (id<0)=false:=decide_eq_false (by omega);have h4:decide (id<((0:Nat):Int))=false:=h3;go_enter Tryz.func141,Tryz.ntmps141
     go_wp2;go_ret;exact⟨rfl,rfl⟩
theorem aoL(h:Out w p id):Calls Tryz.prog 124 #[.pointer p,.int .i64 id] w (fun e w'=>e=.returned (.tuple #[.agg #[.int .i64 0,.float .f64 0,.int .i64 0,.int .i64 0],.bool false])/\Below w.heap.size w w'):=by
 obtain⟨w1,hw1,hb1,hs1,b1⟩:=pro1 w (.cells #[.int .i64 0,.float .f64 0,.int .i64 0,.int .i64 0] 144);obtain⟨c0,c1,c2,c3⟩:=aU b1;obtain⟨f0,f1,f2,f3⟩:=ac8 b1;have HH:=hdd (aoR (h.below hb1));have g1:=hdd (set4 b1 (.int .i64 0) (.float .f64 0) (.int .i64 0) (.int .i64 0));have HB:Hid (∀a b c d,Below w.heap.size w ((((w1.setCell ⟨w.heap.size,0,none⟩ a).setCell ⟨w.heap.size,1,none⟩ b).setCell ⟨w.heap.size,2,none⟩ c).setCell ⟨w.heap.size,3,none⟩ d)):=hdd fun a b c d=>(((hb1.setCell nlr a).setCell nlr b).setCell nlr c).setCell nlr d;have hst:=aX;clear h hb1 hs1 b1;go_enter Tryz.func124,Tryz.ntmps124
 go_wp2_with fail
 refine HH.out.mono ?_;rintro e w2⟨rfl,rfl⟩;go_wp2_with fail
 obtain⟨x0,x1,x2,x3⟩:=aU g1.out;refine bodyPost_ret (v:=.tuple #[.agg #[_,_,_,_],_]) (by simp[results,Tryz.results124,go_sem,x0,x1,x2,x3];first|exact⟨⟨rfl,rfl,rfl,rfl⟩,rfl⟩|exact⟨rfl,rfl,rfl,rfl⟩|rfl) rfl ?_;exact⟨rfl,HB.out _ _ _ _⟩
theorem anV(h:Out w p id):Calls Tryz.prog 73 #[.pointer p,.int .i64 id,.agg #[.bool true,.int .i64 32]] w (fun e w'=>e=.returned (.tuple #[.pointer none,.iface 140 (.int .i64 1)])/\Below w.heap.size w w'):=by
 obtain⟨w1,hw1,hb1,hs1,b1⟩:=pro1 w (.cells #[.bool true,.int .i64 32] 65);have HN:=hdd (aoL (h.below hb1));have HB:=hdd hb1;have hst:=aX;clear h hb1 hs1 b1;go_enter Tryz.func73,Tryz.ntmps73
 go_wp2_with fail
 refine HN.out.mono ?_;rintro e w2⟨rfl,hb2⟩;obtain⟨w3,hw3,z0,z1,z2,z3,y0,y1,y2,y3,w4,hw4,hb4,hs4⟩:=new4 w2 144 (.int .i64 0) (.float .f64 0) (.int .i64 0) (.int .i64 0) (.int .i64 0) (.float .f64 0) (.int .i64 0) (.int .i64 0);have HB4:=hdd (aB (aB HB.out hb2) hb4);clear hb2 hb4 hs4 HN;go_wp2_with fail
 refine malformed_any.mono ?_;rintro e w5⟨rfl,rfl⟩;go_wp2
 go_ret2
 exact⟨rfl,HB4.out⟩
theorem an9(h:Out w p id):Calls Tryz.prog 27 #[.pointer p,.int .i64 id,.slice none 0 0] w (fun e w'=>e=.returned (.tuple #[.int .i64 0,.iface 140 (.int .i64 1)])/\Below w.heap.size w w'):=by
 have HE:Hid (∀w',Below w.heap.size w w'->Calls Tryz.prog 73 #[.pointer p,.int .i64 id,.agg #[.bool true,.int .i64 32]] w' (fun e w''=>e=.returned (.tuple #[.pointer none,.iface 140 (.int .i64 1)])/\Below w'.heap.size w' w'')):=hdd fun w' hb=>anV (h.below hb);clear h;go_enter Tryz.func27,Tryz.ntmps27
 go_wp2_with fail
 refine chosen_any.mono ?_;rintro e w1⟨rfl,hb1⟩;have HB1:=hdd hb1;clear hb1;go_wp2_with fail
 refine(HE.out _ HB1.out).mono ?_;rintro e w2⟨rfl,hb2⟩;have HB2:=hdd (aB HB1.out hb2);clear hb2;go_wp2
 go_ret2
 exact⟨rfl,HB2.out⟩
theorem an8(h:Out w p id):Calls Tryz.prog 30 #[.pointer p,.int .i64 id,.slice none 0 0] w (fun e w'=>e=.returned (.iface 140 (.int .i64 1))/\Below w.heap.size w w'):=by
 have HE:Hid (∀w',Below w.heap.size w w'->Calls Tryz.prog 73 #[.pointer p,.int .i64 id,.agg #[.bool true,.int .i64 32]] w' (fun e w''=>e=.returned (.tuple #[.pointer none,.iface 140 (.int .i64 1)])/\Below w'.heap.size w' w'')):=hdd fun w' hb=>anV (h.below hb);clear h;go_enter Tryz.func30,Tryz.ntmps30
 go_wp2_with fail
 refine chosen_any.mono ?_;rintro e w1⟨rfl,hb1⟩;have HB1:=hdd hb1;clear hb1;go_wp2_with fail
 refine(HE.out _ HB1.out).mono ?_;rintro e w2⟨rfl,hb2⟩;have HB2:=hdd (aB HB1.out hb2);clear hb2;go_wp2;go_ret;exact⟨rfl,HB2.out⟩
theorem aoE(h:Out w p id):Calls Tryz.prog 28 #[.pointer p,.int .i64 id,.slice none 0 0] w (fun e w'=>e=.returned (.tuple #[.agg #[.int .i64 0,.int .i64 0,.int .i64 0],.iface 140 (.int .i64 1)])/\Below w.heap.size w w'):=by
 obtain⟨w1,hw1,hb1,hs1,b1⟩:=pro1 w (.cells #[.int .i64 0,.int .i64 0,.int .i64 0] 53);have HO:=hdd (an9 (h.below hb1));have HB:=hdd hb1;have B1:=hdd b1;clear h hb1 hs1 b1;go_enter Tryz.func28,Tryz.ntmps28
 go_wp2_with fail
 refine HO.out.mono ?_;rintro e w2⟨rfl,hb2⟩;have b2:=hbl B1.out hb2;obtain⟨c0,c1,c2,f0,f1,f2⟩:=cells3 b2;have HG:=hdd (set3 b2 (.int .i64 0) (.int .i64 0) (.int .i64 0));have HF:Hid (∀a b c,Below w.heap.size w (((w2.setCell ⟨w.heap.size,0,none⟩ a).setCell ⟨w.heap.size,1,none⟩ b).setCell ⟨w.heap.size,2,none⟩ c)):=hdd fun a b c=>(((aB HB.out hb2).setCell nlr a).setCell nlr b).setCell nlr c;clear hb2 b2 HO B1;go_wp2;obtain⟨x0,x1,x2,-,-,-⟩:=cells3 HG.out;refine bodyPost_ret (v:=.tuple #[.agg #[_,_,_],_]) (by simp[results,Tryz.results28,go_sem,x0,x1,x2];first|exact⟨⟨rfl,rfl,rfl⟩,rfl⟩|exact⟨rfl,rfl,rfl⟩|rfl) rfl ?_;exact⟨rfl,HF.out _ _ _⟩
theorem anP{k:Int}(h:1<=k/\k<=7):Calls Tryz.prog 29 #[.iface 140 (.int .i64 k)] w (fun e w'=>e=.returned (.int .i64 k)/\Below w.heap.size w w'):=an5 (S:=fun _=>False) (.kind h.1 h.2) (by decide)
theorem aoS(w:World):(binOp .eql 53 (.agg #[.int .i64 0,.int .i64 0,.int .i64 0]) (.agg #[.int .i64 0,.int .i64 0,.int .i64 0])).run Tryz.prog w=.ok (.bool true) w:=by kernel_rfl
theorem anY(hT:Tab w)(htb:0<w.heap.size):
 Calls Tryz.prog 5 #[.int .i64 id] w (RetV w (.bool true)):=by
 have HA:=hdd (aoQ hT htb);have HT:=hdd (And.intro hT htb);clear hT htb;go_enter Tryz.func5,Tryz.ntmps5
 go_wp2_with fail
 refine HA.out.mono ?_;rintro e w2⟨rfl,hb⟩;have HN:=hdd (adI (w0:=w) (l:=[]) hb (fun p hp=>by cases hp) (by simp) HT.out.1 HT.out.2);clear hb HA;go_wp2_with fail
 refine HN.out.mono ?_;rintro e W1⟨g,rfl,hR⟩;have HB1:=hdd (Run.below hR);have HO:Hid (Out W1 (some ⟨g,0,none⟩) id):=hdd (by
  obtain⟨ns,hs,-⟩:=hR;have:=hs.st.room;obtain rfl:ns=[]:=List.length_eq_zero_iff.1 (by omega);exact Or.inr ⟨g,rfl,hs.st.dag⟩)
 clear hR HN;dsimp only;go_wp2_with fail
 refine(an9 HO.out).mono ?_;rintro e w3⟨rfl,hb⟩;have HO3:=hdd (HO.out.below hb);have HB3:=hdd (aB HB1.out hb);clear hb HO HB1;go_wp2_with fail
 refine(an9 (Or.inl rfl)).mono ?_;rintro e w4⟨rfl,hb⟩;have HO4:=hdd (HO3.out.below hb);have HB4:=hdd (aB HB3.out hb);clear hb HO3 HB3;go_wp2_with fail
 refine(aoE HO4.out).mono ?_;rintro e w5⟨rfl,hb⟩;have HO5:=hdd (HO4.out.below hb);have HB5:=hdd (aB HB4.out hb);clear hb HO4 HB4;obtain⟨w6,hw6,hb6,hs6,b6⟩:=pro1 w5 (.cells #[.int .i64 0,.int .i64 0,.int .i64 0] 53);obtain⟨d0,d1,d2,f0,f1,f2⟩:=cells3 b6;obtain⟨w7,hw7⟩:∃w7,((w6.setCell ⟨w5.heap.size,0,none⟩ (.int .i64 0)).setCell ⟨w5.heap.size,1,none⟩ (.int .i64 0)).setCell ⟨w5.heap.size,2,none⟩ (.int .i64 0)=w7:=⟨_,rfl⟩;have b7:=set3 b6 (.int .i64 0) (.int .i64 0) (.int .i64 0);have hb7:Below w5.heap.size w5 w7:=by rw[<-hw7];exact((hb6.setCell nlr _).setCell nlr _).setCell nlr _
 rw[hw7]at b7;obtain⟨c0,c1,c2,-,-,-⟩:=cells3 b7;have HO6:=hdd (HO5.out.below hb7);have HB6:=hdd (aB HB5.out hb7);have hwe:=aoS;clear hb6 hs6 b6 b7 hb7 HO5 HB5;go_wp2_with fail
 refine(anP (k:=1) (by decide)).mono ?_;rintro e v7⟨rfl,hb⟩;have HO7:=hdd (HO6.out.below hb);have HB7:=hdd (aB HB6.out hb);replace c0:=cbl c0 hb;replace c1:=cbl c1 hb;replace c2:=cbl c2 hb;clear hb HO6 HB6;go_wp2_with fail
 refine(anP (k:=1) (by decide)).mono ?_;rintro e w8⟨rfl,hb⟩;have HO8:=hdd (HO7.out.below hb);have HB8:=hdd (aB HB7.out hb);replace c0:=cbl c0 hb;replace c1:=cbl c1 hb;replace c2:=cbl c2 hb;clear hb HO7 HB7;go_wp2_with fail
 refine(anP (k:=1) (by decide)).mono ?_;rintro e w9⟨rfl,hb⟩;have HO9:=hdd (HO8.out.below hb);have HB9:=hdd (aB HB8.out hb);replace c0:=cbl c0 hb;replace c1:=cbl c1 hb;replace c2:=cbl c2 hb;clear hb HO8 HB8;go_wp2_with fail
 refine(an8 HO9.out).mono ?_;rintro e w10⟨rfl,hb⟩;have HB10:=hdd (aB HB9.out hb);clear hb HO9 HB9 c0 c1 c2;go_wp2_with fail
 refine(anP (k:=1) (by decide)).mono ?_;rintro e w11⟨rfl,hb⟩;have HB11:=hdd (aB HB10.out hb);clear hb;go_wp2;go_ret;exact⟨rfl,HB11.out⟩
end
end Go.Proofs.YtebdolonckjpiaaGreatDoor
