/- A part of the proof: contracts of functions and plain laws (CiB, MnC). -/
import Derived.Test.YtaojpfcboainmaaGreatDoorK41
import Derived.Test.YtaojpfcboainmaaGreatDoorK42
import Derived.Test.YtaojpfcboainmaaGreatDoorK33
import Derived.Test.YtaojpfcboainmaaGreatDoorK07
set_option linter.unusedVariables false
set_option linter.unusedSimpArgs false
set_option maxHeartbeats 25600000
set_option maxRecDepth 100000
namespace Go.Proofs.YtaojpfcboainmaaGreatDoor
section
open Go.RowKit Go.Maps
open List renaming setIfInBounds_toArray->asH,map_cons->asI,map_nil->asJ,set->asK
theorem ahQ{g ca cb cc:Nat}(hca:FlOk ca)(hcb:FlOk cb)(hcc:FlOk cc)(h0:0<=fv cc):FnOk 38 g 6 #[.pointer (some ⟨g,0,none⟩),curV 2 ca cb cc] [] (fun ks=>.tuple #[bY g (ks.getD 0 0) (ks.getD 1 0),bY g (ks.getD 2 0) (ks.getD 3 0),.nilIface]) [.sub (.leaf ca) (.root (.leaf cc)),.leaf cb,.add (.leaf ca) (.root (.leaf cc)),.leaf cb]:=FnOk.of fun w B ns N hR hN=>by
 have R1:=hdd hR;clear hR;go_enter Tryz.func38,Tryz.ntmps38
 go_upto_region 0 with fail
 refine Spec.go [.w (.c (.ptr 0 0)),.w (.c (.ptr 1 0)),.w (.c (.ptr 2 0)),.w (.c (.v Value.nilIface))] [0,1,2]
  [] [⟨0,33,curC 2 ca cb cc,none⟩,⟨1,37,[.v (.pointer none),.v (.int .i64 0),.v (.pointer none),.v (.int .i64 0)],none⟩,⟨2,37,[.v (.pointer none),.v (.int .i64 0),.v (.pointer none),.v (.int .i64 0)],none⟩]
  [0,0,0,0] [[],[],[],[]] [(1,.w (.agg ([.v (.int .i64 2),.v (.float .f64 ca),.v (.float .f64 cb),.v (.float .f64 cc)])))]
  [4,5,6,7] [] 4 N [] [] R1.out
  (fun b hM=>aA (aA (aA (aA aL
    (aS b m0))
    (aS b m1))
    (aS b m2))
    (aD b)) ?_
 intro b1 b2 b3 ν W2 hR;have R2:=hdd hR;clear hR R1;simp only[putL,asH,asK,fs0,fs1,fsn,dSw,dSt,dWc,dWa,dv,di,dp,ds',asI,asJ,nuTn,nuT0,nuT1,nuU0,nuU1]
 go_upto_region 1 with fail
 refine Spec.go [.w (.agg ([.v (.int .i64 2),.v (.float .f64 ca),.v (.float .f64 cb),.v (.float .f64 cc)])),.w (.c (.v .nilIface)),.w (.c (.v .nilIface))] []
  [] [⟨0,33,curC 2 ca cb cc,none⟩,⟨1,37,[.v (.pointer none),.v (.int .i64 0),.v (.pointer none),.v (.int .i64 0)],none⟩,⟨2,37,[.v (.pointer none),.v (.int .i64 0),.v (.pointer none),.v (.int .i64 0)],none⟩]
  [0,0,0] [[],[0],[0,1]] [(3,.w (.c (.ptr 0 0)))]
  [11,12,8] [b1,b2,b3] 3 N [] [] R2.out
  (fun b hM=>aA (aA (aA aL
    (aK b 4 m0))
    (bF b (ad7 hM rfl rfl rfl (fun w=>afH hca hcb hcc h0))))
    (aD b)) ?_
 intro ν W3 hR;have R3:=hdd hR;clear hR R2;simp only[putL,asH,asK,fs0,fs1,fsn,dSw,dSt,dWc,dWa,dv,di,dp,ds',asI,asJ,nuTn,nuT0,nuT1,nuU0,nuU1]
 go_upto_region 4 with fail
 refine Spec.go [.w (.c (.v (.pointer (some ⟨g,0,none⟩)))),.w (.agg ([.v (.int .i64 2),.v (.float .f64 ca),.v (.float .f64 cb),.v (.float .f64 cc)])),bJ g 3 4,.w (.c (.v (.pointer (some ⟨g,0,none⟩)))),.w (.agg ([.v (.int .i64 2),.v (.float .f64 ca),.v (.float .f64 cb),.v (.float .f64 cc)])),numS g 5,.w (.c (.ptr 6 0)),.w (.c (.ptr 7 0)),noS,noS] [2,2,5,6,7]
  [(3,(.leaf ca)),(4,(.leaf cb)),(5,(.root (.leaf cc)))] [⟨0,33,curC 2 ca cb cc,none⟩,⟨1,37,[.v (.pointer none),.v (.int .i64 0),.v (.pointer none),.v (.int .i64 0)],none⟩,⟨2,37,[.v (.pointer none),.v (.int .i64 0),.v (.pointer none),.v (.int .i64 0)],none⟩,⟨6,37,[.v (.pointer none),.v (.int .i64 0),.v (.pointer none),.v (.int .i64 0)],some (8,aN g 3 4)⟩,⟨7,35,[.v (.pointer none),.v (.int .i64 0)],some (9,numC g 5)⟩]
  [0,0,2,0,0,2,0,0,0,0] [[],[],[0,1],[],[],[3,4],[],[],rgn 8,rgn 9] [(0,.w (.c (.v (.pointer (some ⟨g,0,none⟩))))),(3,.w (.c (.ptr 0 0)))]
  [18,19,20,21,22,23,9,10,0,0] [b1,b2,b3] 10 (N+4) [] [] R3.out
  (fun b hM=>aA (aA (aA (aA (aA (aA (aA (aA (aA (aA aL
    (aD b))
    (aK b 4 m0))
    (bF b (c_fn (ix:=[]) (ts:=[3,4]) hM (fun ν=>sZ (ca:=ca) (cb:=cb) (cc:=cc) ⟨hca.1,hca.2⟩ ⟨hcb.1,hcb.2⟩))))
    (aD b))
    (aK b 4 m0))
    (bF b (c_fn (ix:=[]) (ts:=[5]) hM (fun ν=>acW (ca:=ca) (cb:=cb) (cc:=cc) ⟨hcc.1,hcc.2⟩))))
    (aS b m3))
    (aS b m4))
    (dM b 4 m3))
    (dM b 2 m4)) ?_
 intro n4 n5 n6 b7 b8 ν W4 hR;have R4:=hdd hR;clear hR R3;simp only[putL,asH,asK,fs0,fs1,fsn,dSw,dSt,dWc,dWa,dv,di,dp,ds',asI,asJ,nuTn,nuT0,nuT1,nuU0,nuU1]
 go_upto_region 5 with fail
 refine Spec.go [.w (.c (.ptr 5 0)),numS g 2,numS g 4,numS g 7,.w (.c (.ptr 5 2)),numS g 3,bJ g 7 3,.w (.c (.ptr 5 0)),numS g 2,numS g 4,.w (.c (.sl 8 1)),numS g 9,.w (.c (.ptr 5 2)),numS g 3,bJ g 9 3,noS,noS,.w (.c (.v Value.nilIface))] [3,10,11]
  [(2,(.leaf ca)),(3,(.leaf cb)),(4,(.root (.leaf cc))),(7,(.sub (.leaf ca) (.root (.leaf cc)))),(9,(.add (.leaf ca) (.root (.leaf cc))))] [⟨0,37,[.v (.pointer none),.v (.int .i64 0),.v (.pointer none),.v (.int .i64 0)],some (15,aN g 7 3)⟩,⟨1,37,[.v (.pointer none),.v (.int .i64 0),.v (.pointer none),.v (.int .i64 0)],some (16,aN g 9 3)⟩,⟨5,37,aN g 2 3,none⟩,⟨6,35,numC g 4,none⟩,⟨8,35,numC g 4,none⟩]
  [0,0,0,1,0,0,0,0,0,0,0,1,0,0,0,0,0,0] [[],[0],[],[0,1,2],[],[4],rgn 6,[],[7],[],[9],[7,8,9,10],[],[12],[7,8,9,10,11,12,13],rgn 12,rgn 16,[]] [(8,.w (.c (.ptr 5 0))),(9,.w (.c (.ptr 6 0))),(4,.w (.c (.ptr 0 0))),(5,.w (.c (.ptr 1 0)))]
  [24,25,26,27,28,29,30,31,32,33,34,35,36,37,38,0,0,7] [b2,b3,n4,n5,n6,b7,b8] 18 (N+6) [] [false] R4.out
  (fun b hM=>aA (aA (aA (aA (aA (aA (aA (aA (aA (aA (aA (aA (aA (aA (aA (aA (aA (aA aL
    (aD b))
    (aK b 2 m2))
    (aK b 2 m3))
    (bF b (rC hM m0 m2 rfl rfl rfl rfl rfl rfl)))
    (aD b))
    (aK b 2 m2))
    (aD b))
    (aD b))
    (aK b 2 m2))
    (aK b 2 m3))
    (oP b m4))
    (bF b (anY hM m0 m2 rfl rfl m4 rfl rfl rfl rfl rfl rfl rfl rfl)))
    (aD b))
    (aK b 2 m2))
    (aD b))
    (dM b 4 m0))
    (dM b 4 m1))
    (aD b)) ?_
 intro n9 b10 n11 ν W5 hR;replace hR:Run ⟨w,B,ns⟩ g (N+6) [((.leaf ca),n4),((.leaf cb),n5),((.root (.leaf cc)),n6),((.sub (.leaf ca) (.root (.leaf cc))),n9),((.add (.leaf ca) (.root (.leaf cc))),n11)] [(b2,aQ g n9 n5),(b3,aQ g n11 n5),(b7,aQ g n4 n5),(b8,numO g n6),(b10,numO g n6)] W5:=hR;have R5:=hdd hR;clear hR R4;simp only[putL,asH,asK,fs0,fs1,fsn,dSw,dSt,dWc,dWa,dv,di,dp,ds',asI,asJ,nuTn,nuT0,nuT1,nuU0,nuU1];go_wp2;obtain⟨x0,x1,x2,x3⟩:=aW (R5.out.at m0);obtain⟨x4,x5,x6,x7⟩:=aW (R5.out.at m1);refine bodyPost_ret (v:=.tuple #[.agg #[_,_,_,_],.agg #[_,_,_,_],.nilIface]) (by simp[results,Tryz.results38,go_sem,x0,x1,x2,x3,x4,x5,x6,x7];first|exact⟨⟨rfl,rfl,rfl,rfl⟩,⟨rfl,rfl,rfl,rfl⟩⟩|rfl) rfl ?_;exact⟨[n9,n5,n11,n5],rfl,rfl,_,R5.out.few (gF [3,1,4,1])⟩
end
section
open Go.RowKit Go.Maps Go.Stop Go.Extern
open Go.Act renaming put->asR
open List renaming setIfInBounds_toArray->asL,mem_append_right->asM,set_cons_zero->asN,set_cons_succ->asO,sublist_append_left->asP,sublist_cons_self->asQ,not_mem_nil->asS,map_cons->asT,mem_cons->asU,map_nil->asV,set->asW
variable{ca cb cc g i j k l:Nat}
abbrev lfE(ca cb cc:Nat):Ex×Ex:=(.sub (.leaf ca) (.root (.leaf cc)),.leaf cb)
abbrev rtE(ca cb cc:Nat):Ex×Ex:=(.add (.leaf ca) (.root (.leaf cc)),.leaf cb)
def mR(ca cb cc:Nat)(l:List Nat):List (Ex×Ex):=l.map fun j=>if j=6 then lfE ca cb cc else rtE ca cb cc
def pO(g:Nat)(es:List (Ex×Ex))(K1:List (Ex×Nat))(l1:List (Nat×Obj))(e:Ending):Prop:=∃v ps,e=.returned (.tuple #[v,.nilIface])/\OwnR 37 4 v ps.length (spL g ps) l1/\KnP K1 es ps
def ad9(ca cb cc:Nat)(A1 A2 B1 B2:Ex)(b6 b0 f:Bool):Prop:=(lK ca cb cc/\(FloatKind.f64.format.order cc 0==some Ordering.eq)=false)/\(dQ PT (fQ ca cb cc A1 A2) 0/\dQ PT (fQ ca cb cc B1 B2) 0/\dQ PT (fQ ca cb cc (lfE ca cb cc).1 (lfE ca cb cc).2) 0/\dQ PT (fQ ca cb cc (rtE ca cb cc).1 (rtE ca cb cc).2) 0)/\
 InH A1 A2 B1 B2 (lfE ca cb cc).1 (lfE ca cb cc).2 b6/\InH A1 A2 B1 B2 (rtE ca cb cc).1 (rtE ca cb cc).2 b0/\tC A1 A2 (rtE ca cb cc).1 (rtE ca cb cc).2 (lfE ca cb cc).1 (lfE ca cb cc).2 f
def selP(b6 b0:Bool)(p6 p0:Nat×Nat):Nat->List (Nat×Nat)
 |0=>[]
 |1=>if b6 then[p6]else[]
 |_=>(if b6 then[p6]else[])++if b0 then[p0]else[]
theorem alL(b6 b0:Bool)(p6 p0:Nat×Nat)(m:Nat):(selP b6 b0 p6 p0 m).length<=2:=by
 unfold selP;split<;>cases b6<;>cases b0<;>simp
theorem turns_line{K0:List (Ex×Nat)}:FnAny 23 g 0 #[.pointer (some ⟨g,0,none⟩),.agg #[.int .i64 1,.float .f64 ca,.float .f64 cb,.float .f64 cc,.pointer (some ⟨g,0,none⟩),.int .i64 (i:Int),.pointer (some ⟨g,0,none⟩),.int .i64 (j:Int),.pointer (some ⟨g,0,none⟩),.int .i64 (k:Int),.pointer (some ⟨g,0,none⟩),.int .i64 (l:Int)]] K0 (pO g []):=by
 intro s N K L W hR hN hK;obtain⟨w1,hw1,hb1,hs1,b1⟩:=pro1 W (.cells #[.int .i64 1,.float .f64 ca,.float .f64 cb,.float .f64 cc,.pointer (some ⟨g,0,none⟩),.int .i64 (i:Int),.pointer (some ⟨g,0,none⟩),.int .i64 (j:Int),.pointer (some ⟨g,0,none⟩),.int .i64 (k:Int),.pointer (some ⟨g,0,none⟩),.int .i64 (l:Int)] 39);have x0:=aB (k:=0) (v:=.int .i64 1) b1 rfl;have HR:=hdd (hR.step hb1);clear hb1 hs1 b1 hR hN hK;go_enter Tryz.func23,Tryz.ntmps23
 go_wp2
 go_ret2
 exact⟨[],[],⟨_,[],rfl,OwnR.nil _ _,trivial⟩,HR.out⟩
theorem xF{A1 A2 B1 B2:Ex}{d6 d0 f:Bool}(H:ad9 ca cb cc A1 A2 B1 B2 d6 d0 f):FnAny 23 g 107 #[.pointer (some ⟨g,0,none⟩),arcV g ca cb cc i j k l] [(A1,i),(A2,j),(B1,k),(B2,l)] (pO g (mR ca cb cc (cutB d6 d0 f))):=FnAny.of fun w B ns N hR hN=>by
 have h1:=H.1.1;have HH:=hdd H;have HN:=hdd hN;have R1:=hdd hR;clear hR H;go_enter Tryz.func23,Tryz.ntmps23
 go_upto_region 0 with fail
 refine Spec.go [.w (.c (.ptr 4 0)),.w (.c (.v (Value.slice none 0 0))),.w (.c (.v Value.nilIface))] [0]
  [(0,A1),(1,A2),(2,B1),(3,B2)] [⟨4,39,(arcC g ca cb cc 0 1 2 3),none⟩]
  [0,0,0] [[],[],[]] [(1,.w (.agg ((arcC g ca cb cc 0 1 2 3))))]
  [4,5,6] [i,j,k,l] 3 N [] [] R1.out
  (fun b hM=>aA (aA (aA aL
    (aS b m0))
    (aD b))
    (aD b)) ?_
 intro b1 ν W2 hR;replace hR:Run ⟨w,B,ns⟩ g N [(A1,i),(A2,j),(B1,k),(B2,l)] [(b1,.cells #[(.int .i64 2),(.float .f64 ca),(.float .f64 cb),(.float .f64 cc),.pointer (some ⟨g,0,none⟩),.int .i64 ((i:Nat):Int),.pointer (some ⟨g,0,none⟩),.int .i64 ((j:Nat):Int),.pointer (some ⟨g,0,none⟩),.int .i64 ((k:Nat):Int),.pointer (some ⟨g,0,none⟩),.int .i64 ((l:Nat):Int)] 39)] W2:=hR;have R2:=hdd hR;clear hR R1;simp only[putL,asL,asW,fs0,fs1,fsn,dSw,dSt,dWc,dWa,dv,di,dp,ds',asT,asV,nuTn,nuT0,nuT1,nuU0,nuU1,dA12,dP8,dP24];have k0:=aB (k:=0) (v:=.int .i64 2) (R2.out.at m0) rfl
 go_upto_region 3 with fail
 clear k0;refine Spec.go [.w (.c (.v (.pointer (some ⟨g,0,none⟩)))),.w (.c (.ptr 4 0)),.w (.agg ([.v (.int .i64 2),.v (.float .f64 ca),.v (.float .f64 cb),.v (.float .f64 cc)])),.tup [.agg (aN g 5 6),.agg (aN g 7 8),.c (.v .nilIface)],.tup [.agg (aN g 5 6),.agg (aN g 7 8),.c (.v .nilIface)],bJ g 5 6,bJ g 7 8,.w (.c (.v .nilIface)),.w (.c (.ptr 9 0)),.w (.c (.ptr 10 0)),noS,noS,.w (.c (.v .nilIface))] [3,3,3,3,8,9]
  [(0,A1),(1,A2),(2,B1),(3,B2),(5,(.sub (.leaf ca) (.root (.leaf cc)))),(6,(.leaf cb)),(7,(.add (.leaf ca) (.root (.leaf cc)))),(8,(.leaf cb))] [⟨4,39,(arcC g ca cb cc 0 1 2 3),none⟩,⟨9,37,[.v (.pointer none),.v (.int .i64 0),.v (.pointer none),.v (.int .i64 0)],some (10,aN g 5 6)⟩,⟨10,37,[.v (.pointer none),.v (.int .i64 0),.v (.pointer none),.v (.int .i64 0)],some (11,aN g 7 8)⟩]
  [0,0,0,6,0,0,0,0,0,0,0,0,0] [[],[],[1],[0,1,2],rgn 4,rgn 5,rgn 5,rgn 5,[],[],[0,1,2,3,4,5,8,9],[0,1,2,3,4,5,6,8,9,10],[0,1,2,3,4,7]] [(0,.w (.c (.v (.pointer (some ⟨g,0,none⟩))))),(3,.w (.c (.ptr 4 0)))]
  [21,22,23,24,20,25,26,27,7,8,0,0,9] [i,j,k,l,b1] 13 (N+6) [] [] R2.out
  (fun b hM=>aA (aA (aA (aA (aA (aA (aA (aA (aA (aA (aA (aA (aA aL
    (aD b))
    (aD b))
    (aK b 4 m0))
    (bF b (c_fn (ix:=[]) (ts:=[5,6,7,8]) hM (fun ν=>ahQ (ca:=ca) (cb:=cb) (cc:=cc) h1.1 h1.2.1 h1.2.2.1 h1.2.2.2))))
    (aD b))
    (aD b))
    (aD b))
    (aD b))
    (aS b m1))
    (aS b m2))
    (dM b 4 m1))
    (dM b 4 m2))
    (aD b)) ?_
 intro n2 n3 n4 n5 b6 b7 ν W3 hR;replace hR:Run ⟨w,B,ns⟩ g (N+6) [(A1,i),(A2,j),(B1,k),(B2,l),((.sub (.leaf ca) (.root (.leaf cc))),n2),((.leaf cb),n3),((.add (.leaf ca) (.root (.leaf cc))),n4),((.leaf cb),n5)] [(b1,.cells #[(.int .i64 2),(.float .f64 ca),(.float .f64 cb),(.float .f64 cc),.pointer (some ⟨g,0,none⟩),.int .i64 ((i:Nat):Int),.pointer (some ⟨g,0,none⟩),.int .i64 ((j:Nat):Int),.pointer (some ⟨g,0,none⟩),.int .i64 ((k:Nat):Int),.pointer (some ⟨g,0,none⟩),.int .i64 ((l:Nat):Int)] 39),(b6,aQ g n2 n3),(b7,aQ g n4 n5)] W3:=hR;have R3:=hdd hR;clear hR R2;simp only[putL,asL,asW,fs0,fs1,fsn,dSw,dSt,dWc,dWa,dv,di,dp,ds',asT,asV,nuTn,nuT0,nuT1,nuU0,nuU1,dA12,dP8,dP24];have R0:Hid (Run ⟨w,B,ns⟩ g (N+6+44*0) [(A1,i),(A2,j),(B1,k),(B2,l),((.sub (.leaf ca) (.root (.leaf cc))),n2),((.leaf cb),n3),((.add (.leaf ca) (.root (.leaf cc))),n4),((.leaf cb),n5)] ([]++[(b1,jM g 2 ca cb cc i j k l),(b6,aQ g n2 n3),(b7,aQ g n4 n5)]) W3):=hdd R3.out
 obtain⟨x0,x1,x2,x3⟩:=aW (R0.out.at m1);obtain⟨y0,y1,y2,y3⟩:=aW (R0.out.at m2);clear R3;go_wp2_with fail
 go_loopw [9,33] (fun v ii wr=>∃(m:Nat) (la:List (Nat×Obj)),m<=2/\ii=.int .i64 (m:Int)/\OwnR 37 4 v (selP d6 d0 (n2,n3) (n4,n5) m).length (spL g (selP d6 d0 (n2,n3) (n4,n5) m)) la/\Hid (Run ⟨w,B,ns⟩ g (N+6+44*m) [(A1,i),(A2,j),(B1,k),(B2,l),((.sub (.leaf ca) (.root (.leaf cc))),n2),((.leaf cb),n3),((.add (.leaf ca) (.root (.leaf cc))),n4),((.leaf cb),n5)] (la++[(b1,jM g 2 ca cb cc i j k l),(b6,aQ g n2 n3),(b7,aQ g n4 n5)]) wr)) (fun _ ii _=>(2-intOf ii).toNat)
 case atStart=>exact⟨0,[],by omega,rfl,OwnR.nil _ _,R0⟩
 case round=>
  clear R0 x0 x1 x2 x3 y0 y1 y2 y3;obtain⟨m,la,hm,rfl,ho,HR⟩:=hrel;rcases Nat.lt_or_ge m 2 with hlt|hge
  . obtain⟨q,b,X,Y,hsel,hix,hC,hX,hY⟩:∃(q:Nat×Nat) (b:Bool) (X Y:Ex),selP d6 d0 (n2,n3) (n4,n5) (m+1)=selP d6 d0 (n2,n3) (n4,n5) m++(if b then[q]else[])/\
     (∀w,(Instr.index 80 (.agg #[.pointer (some ⟨g,0,none⟩),.int .i64 (n2:Int),.pointer (some ⟨g,0,none⟩),.int .i64 (n3:Int),.pointer (some ⟨g,0,none⟩),.int .i64 (n4:Int),.pointer (some ⟨g,0,none⟩),.int .i64 (n5:Int)]) (.int .i64 (m:Int))).run Tryz.prog w=.ok (bY g q.1 q.2) w)/\(dQ PT (fQ ca cb cc X Y) 0/\InH A1 A2 B1 B2 X Y b)/\(X,q.1)∈[(A1,i),(A2,j),(B1,k),(B2,l),((.sub (.leaf ca) (.root (.leaf cc))),n2),((.leaf cb),n3),((.add (.leaf ca) (.root (.leaf cc))),n4),((.leaf cb),n5)]/\(Y,q.2)∈[(A1,i),(A2,j),(B1,k),(B2,l),((.sub (.leaf ca) (.root (.leaf cc))),n2),((.leaf cb),n3),((.add (.leaf ca) (.root (.leaf cc))),n4),((.leaf cb),n5)]:=by
     match m,hlt with
     |0,_=>exact⟨(n2,n3),d6,_,_,by cases d6<;>rfl,fun w=>by kernel_rfl,⟨HH.out.2.1.2.2.1,HH.out.2.2.1⟩,m4,m5⟩
     |1,_=>exact⟨(n4,n5),d0,_,_,by cases d6<;>cases d0<;>rfl,fun w=>by kernel_rfl,⟨HH.out.2.1.2.2.2,HH.out.2.2.2.1⟩,m6,m7⟩
    have hsl:=alL d6 d0 (n2,n3) (n4,n5) m;have HSL:=hdd hsel;generalize selP d6 d0 (n2,n3) (n4,n5) m=ps at ho HSL hsl;obtain⟨w5,hw5,hb5,hs5,b5⟩:=pro1 wr (aQ g q.1 q.2);have R5:Run ⟨w,B,ns⟩ g (N+6+44*m) [(A1,i),(A2,j),(B1,k),(B2,l),((.sub (.leaf ca) (.root (.leaf cc))),n2),((.leaf cb),n3),((.add (.leaf ca) (.root (.leaf cc))),n4),((.leaf cb),n5)] ((wr.heap.size,aQ g q.1 q.2)::(la++[(b1,jM g 2 ca cb cc i j k l),(b6,aQ g n2 n3),(b7,aQ g n4 n5)])) w5:=hw5▸HR.out.alloc _;have HA:(b1,jM g 2 ca cb cc i j k l)∈(wr.heap.size,aQ g q.1 q.2)::(la++[(b1,jM g 2 ca cb cc i j k l),(b6,aQ g n2 n3),(b7,aQ g n4 n5)]):=List.mem_cons_of_mem _ (asM _ m0);have hA:=R5.at HA;obtain⟨x0,x1,x2,x3,x4,x5,x6,x7,x8,x9,x10,x11⟩:=ap1 hA;obtain⟨y0,y1,y2,y3⟩:=aW b5;have HC:=hdd (apB (g:=g) (i:=i) (j:=j) (k:=k) (l:=l) (m:=q.1) (n:=q.2) HH.out.1.1 HH.out.1.2 HH.out.2.1.1 HH.out.2.1.2.1 hC.1 hC.2 _ _ _ _ w5 R5 (by have:=HN.out;omega) (fun p hp=>by
     simp only[asU,asS,or_false]at hp;rcases hp with rfl|rfl|rfl|rfl|rfl|rfl
     . exact m0
     . exact m1
     . exact m2
     . exact m3
     . exact hX
     . exact hY))
    have HO:=hdd ho;have HLT:=hdd hlt;have HSN:=hdd hsl;obtain⟨q1,q2⟩:=q;dsimp only at*;have hm0:(0:Int)<=(m:Int):=by omega
    have hm2:(m:Int)<2:=by omega
    clear hC hX hY hA HA hb5 hs5 b5 R5 ho hsl hsel hlt hm HR;go_wp2_with fail
    refine HC.out.mono ?_;rintro e w6⟨ks,-,rfl,hR6⟩;have R6:Hid (Run ⟨w,B,ns⟩ g (N+6+44*(m+1)) [(A1,i),(A2,j),(B1,k),(B2,l),((.sub (.leaf ca) (.root (.leaf cc))),n2),((.leaf cb),n3),((.add (.leaf ca) (.root (.leaf cc))),n4),((.leaf cb),n5)] ((wr.heap.size,aQ g q1 q2)::(la++[(b1,jM g 2 ca cb cc i j k l),(b6,aQ g n2 n3),(b7,aQ g n4 n5)])) w6):=hdd (by simpa using hR6.more (M:=N+6+44*(m+1)) (by omega));clear hR6 HC x0 x1 x2 x3 x4 x5 x6 x7 x8 x9 x10 x11 y0 y1 y2 y3;generalize wr.heap.size=bp at*
    cases b
    . have R7:=hdd (R6.out.subl (asQ _ _))
      clear R6;go_wp2_with fail
      go_roundw
      case rel=>exact⟨m+1,la,by have:=HLT.out;omega,by go_num,by rw[HSL.out];simpa using HO.out,R7⟩
      case measure=>have:=HLT.out;simp[intOf];omega
    . have hq:=R6.out.at m0
      obtain⟨y0,y1,y2,y3⟩:=aW hq;obtain⟨w7,hw7,hb7,hs7,g7⟩:=pro1 w6 (aQ g q1 q2);have R7:=hdd ((hw7▸R6.out.alloc _:Run ⟨w,B,ns⟩ g (N+6+44*(m+1)) [(A1,i),(A2,j),(B1,k),(B2,l),((.sub (.leaf ca) (.root (.leaf cc))),n2),((.leaf cb),n3),((.add (.leaf ca) (.root (.leaf cc))),n4),((.leaf cb),n5)] ((w6.heap.size,aQ g q1 q2)::((bp,aQ g q1 q2)::(la++[(b1,jM g 2 ca cb cc i j k l),(b6,aQ g n2 n3),(b7,aQ g n4 n5)]))) w7).subl (l':=la++[(b1,jM g 2 ca cb cc i j k l),(b6,aQ g n2 n3),(b7,aQ g n4 n5)]) ((asQ _ _).trans (asQ _ _)));have B7:=hdd g7;clear hq R6 hb7 hs7 g7;go_wp2_with (first
       |(at_builtin
         go_loud (
         refine aaQ afP acU rfl (by decide) HO.out R7.out B7.out rfl (by simp[Value.oneCell']) (by have:=HSN.out;omega) (by decide) rfl _ _ rfl rfl 1 rfl ?_;intro r2 cap2 la2 w8 ho8 hR8;have HO8:=hdd ho8;have R8:=hdd hR8;clear ho8 hR8)))
      go_roundw
      case rel=>exact⟨m+1,la2,by have:=HLT.out;omega,by go_num,by rw[HSL.out,if_pos trivial,List.length_append,List.length_singleton,vX];exact HO8.out,R8⟩
      case measure=>have:=HLT.out;simp[intOf];omega
  . obtain rfl:m=2:=by omega
    have HO:=hdd ho;clear hm hge ho
    cases d6<;>cases d0
    . obtain⟨p,c,rfl⟩:=HO.out.slice
      have HF:=hdd (show pK w B ns g (N+107) (pO g (mR ca cb cc (cutB false false f))) (.returned (.tuple #[.slice p 0 c,.nilIface])) wr from⟨[(A1,i),(A2,j),(B1,k),(B2,l),((.sub (.leaf ca) (.root (.leaf cc))),n2),((.leaf cb),n3),((.add (.leaf ca) (.root (.leaf cc))),n4),((.leaf cb),n5)],_,⟨_,[],rfl,HO.out,trivial⟩,(HR.out.subl (asP _ _)).more (by omega)⟩);clear HO HR;go_wp2
      go_ret2
      exact HF.out
    . obtain⟨p,c,rfl⟩:=HO.out.slice
      have HF:=hdd (show pK w B ns g (N+107) (pO g (mR ca cb cc (cutB false true f))) (.returned (.tuple #[.slice p 1 c,.nilIface])) wr from⟨[(A1,i),(A2,j),(B1,k),(B2,l),((.sub (.leaf ca) (.root (.leaf cc))),n2),((.leaf cb),n3),((.add (.leaf ca) (.root (.leaf cc))),n4),((.leaf cb),n5)],_,⟨_,[(n4,n5)],rfl,HO.out,⟨⟨m6,m7⟩,trivial⟩⟩,(HR.out.subl (asP _ _)).more (by omega)⟩);clear HO HR;go_wp2
      go_ret2
      exact HF.out
    . obtain⟨p,c,rfl⟩:=HO.out.slice
      have HF:=hdd (show pK w B ns g (N+107) (pO g (mR ca cb cc (cutB true false f))) (.returned (.tuple #[.slice p 1 c,.nilIface])) wr from⟨[(A1,i),(A2,j),(B1,k),(B2,l),((.sub (.leaf ca) (.root (.leaf cc))),n2),((.leaf cb),n3),((.add (.leaf ca) (.root (.leaf cc))),n4),((.leaf cb),n5)],_,⟨_,[(n2,n3)],rfl,HO.out,⟨⟨m4,m5⟩,trivial⟩⟩,(HR.out.subl (asP _ _)).more (by omega)⟩);clear HO HR;go_wp2
      go_ret2
      exact HF.out
    . replace HO:Hid (OwnR 37 4 _ 2 (spL g [(n2,n3),(n4,n5)]) la):=HO
      obtain⟨p,c,rfl⟩:=HO.out.slice;have hA:=HR.out.at (asM la m0);obtain⟨x0,x1,x2,x3,x4,x5,x6,x7,x8,x9,x10,x11⟩:=ap1 hA;obtain⟨y0,y1,y2,y3⟩:=aW (HR.out.at (asM la m1));obtain⟨z0,z1,z2,z3⟩:=aW (HR.out.at (asM la m2));have HC:=hdd (acS (g:=g) (i:=i) (j:=j) (k:=n4) (l:=n5) (m:=n2) (n:=n3) HH.out.2.2.2.2 _ _ _ _ wr HR.out (by have:=HN.out;omega) (fun p hp=>by
       simp only[asU,asS,or_false]at hp;rcases hp with rfl|rfl|rfl|rfl|rfl|rfl
       . exact m0
       . exact m1
       . exact m6
       . exact m7
       . exact m4
       . exact m5))
      clear hA HR;go_wp2_with fail
      refine HC.out.mono ?_;rintro e w6⟨ks,-,rfl,hR6⟩;have R6:Hid (Run ⟨w,B,ns⟩ g (N+107) [(A1,i),(A2,j),(B1,k),(B2,l),((.sub (.leaf ca) (.root (.leaf cc))),n2),((.leaf cb),n3),((.add (.leaf ca) (.root (.leaf cc))),n4),((.leaf cb),n5)] (la++[(b1,jM g 2 ca cb cc i j k l),(b6,aQ g n2 n3),(b7,aQ g n4 n5)]) w6):=hdd (by simpa using hR6.more (M:=N+107) (by omega));clear hR6 HC x0 x1 x2 x3 x4 x5 x6 x7 x8 x9 x10 x11 y0 y1 y2 y3 z0 z1 z2 z3
      cases f
      . obtain⟨r,rfl,a0,a1,a2,a3⟩:∃r,p=some ⟨r,0,none⟩/\w6.cell? ⟨r,0,none⟩=some (.pointer (some ⟨g,0,none⟩))/\w6.cell? ⟨r,1,none⟩=some (.int .i64 (n2:Int))/\w6.cell? ⟨r,2,none⟩=some (.pointer (some ⟨g,0,none⟩))/\w6.cell? ⟨r,3,none⟩=some (.int .i64 (n3:Int)):=HO.out.spot (q:=(n2,n3)) (j:=0) R6.out rfl
        obtain⟨r',er,a4,a5,a6,a7⟩:∃r',(some ⟨r,0,none⟩:Option Addr)=some ⟨r',0,none⟩/\w6.cell? ⟨r',4,none⟩=some (.pointer (some ⟨g,0,none⟩))/\w6.cell? ⟨r',5,none⟩=some (.int .i64 (n4:Int))/\w6.cell? ⟨r',6,none⟩=some (.pointer (some ⟨g,0,none⟩))/\w6.cell? ⟨r',7,none⟩=some (.int .i64 (n5:Int)):=HO.out.spot (q:=(n4,n5)) (j:=1) R6.out rfl;obtain rfl:r=r':=by simpa using er
        clear er;obtain⟨y0,y1,y2,y3⟩:=aW (R6.out.at (asM la m1));obtain⟨z0,z1,z2,z3⟩:=aW (R6.out.at (asM la m2));obtain⟨la2,ho2,hR7⟩:=HO.out.sets (vs:=[.pointer (some ⟨g,0,none⟩),.int .i64 (n4:Int),.pointer (some ⟨g,0,none⟩),.int .i64 (n5:Int),.pointer (some ⟨g,0,none⟩),.int .i64 (n2:Int),.pointer (some ⟨g,0,none⟩),.int .i64 (n3:Int)]) R6.out rfl;have n1:=HO.out.ne R6.out m1;have n2':=HO.out.ne R6.out m2;have n3':=Ne.symm n1;have n4':=Ne.symm n2';have HZ:=hdd (HO.out.frz R6.out);have HF:=hdd (show pK w B ns g (N+107) (pO g (mR ca cb cc (cutB true true false))) (.returned (.tuple #[.slice (some ⟨r,0,none⟩) 2 c,.nilIface])) (gG w6 r 0 [.pointer (some ⟨g,0,none⟩),.int .i64 (n4:Int),.pointer (some ⟨g,0,none⟩),.int .i64 (n5:Int),.pointer (some ⟨g,0,none⟩),.int .i64 (n2:Int),.pointer (some ⟨g,0,none⟩),.int .i64 (n3:Int)]).drew from⟨[(A1,i),(A2,j),(B1,k),(B2,l),((.sub (.leaf ca) (.root (.leaf cc))),n2),((.leaf cb),n3),((.add (.leaf ca) (.root (.leaf cc))),n4),((.leaf cb),n5)],_,⟨_,[(n4,n5),(n2,n3)],rfl,ho2,⟨⟨m6,m7⟩,⟨m4,m5⟩,trivial⟩⟩,(hR7.subl (asP _ _)).drew⟩)
        have hz:=HZ.out;have R6x:=hdd R6.out;clear HO R6 ho2 hR7 HZ;simp only[gG]at HF
        go_upto_region 22 with fail
        have q1:=R6x.out.at (asM la m1);have q2:=R6x.out.at (asM la m2);have k1:=((dU (b:=r) [.pointer (some ⟨g,0,none⟩),.int .i64 (n4:Int),.pointer (some ⟨g,0,none⟩),.int .i64 (n5:Int)] 0 w6).block b6 (aG q1) (by simp[n1,n3'])).trans q1;have k2:=((dU (b:=r) [.pointer (some ⟨g,0,none⟩),.int .i64 (n4:Int),.pointer (some ⟨g,0,none⟩),.int .i64 (n5:Int)] 0 w6).block b7 (aG q2) (by simp[n2',n4'])).trans q2;simp only[gG]at k1 k2;have hS5:((((w6.setCell ⟨r,0,none⟩ (.pointer (some ⟨g,0,none⟩))).setCell ⟨r,1,none⟩ (.int .i64 (n4:Int))).setCell ⟨r,2,none⟩ (.pointer (some ⟨g,0,none⟩))).setCell ⟨r,3,none⟩ (.int .i64 (n5:Int))).drew.cell? ⟨b6,0,none⟩=some (.pointer (some ⟨g,0,none⟩))/\((((w6.setCell ⟨r,0,none⟩ (.pointer (some ⟨g,0,none⟩))).setCell ⟨r,1,none⟩ (.int .i64 (n4:Int))).setCell ⟨r,2,none⟩ (.pointer (some ⟨g,0,none⟩))).setCell ⟨r,3,none⟩ (.int .i64 (n5:Int))).drew.cell? ⟨b6,1,none⟩=some (.int .i64 (n2:Int))/\((((w6.setCell ⟨r,0,none⟩ (.pointer (some ⟨g,0,none⟩))).setCell ⟨r,1,none⟩ (.int .i64 (n4:Int))).setCell ⟨r,2,none⟩ (.pointer (some ⟨g,0,none⟩))).setCell ⟨r,3,none⟩ (.int .i64 (n5:Int))).drew.cell? ⟨b6,2,none⟩=some (.pointer (some ⟨g,0,none⟩))/\((((w6.setCell ⟨r,0,none⟩ (.pointer (some ⟨g,0,none⟩))).setCell ⟨r,1,none⟩ (.int .i64 (n4:Int))).setCell ⟨r,2,none⟩ (.pointer (some ⟨g,0,none⟩))).setCell ⟨r,3,none⟩ (.int .i64 (n5:Int))).drew.cell? ⟨b6,3,none⟩=some (.int .i64 (n3:Int))/\((((w6.setCell ⟨r,0,none⟩ (.pointer (some ⟨g,0,none⟩))).setCell ⟨r,1,none⟩ (.int .i64 (n4:Int))).setCell ⟨r,2,none⟩ (.pointer (some ⟨g,0,none⟩))).setCell ⟨r,3,none⟩ (.int .i64 (n5:Int))).drew.cell? ⟨b7,0,none⟩=some (.pointer (some ⟨g,0,none⟩))/\((((w6.setCell ⟨r,0,none⟩ (.pointer (some ⟨g,0,none⟩))).setCell ⟨r,1,none⟩ (.int .i64 (n4:Int))).setCell ⟨r,2,none⟩ (.pointer (some ⟨g,0,none⟩))).setCell ⟨r,3,none⟩ (.int .i64 (n5:Int))).drew.cell? ⟨b7,1,none⟩=some (.int .i64 (n4:Int))/\((((w6.setCell ⟨r,0,none⟩ (.pointer (some ⟨g,0,none⟩))).setCell ⟨r,1,none⟩ (.int .i64 (n4:Int))).setCell ⟨r,2,none⟩ (.pointer (some ⟨g,0,none⟩))).setCell ⟨r,3,none⟩ (.int .i64 (n5:Int))).drew.cell? ⟨b7,2,none⟩=some (.pointer (some ⟨g,0,none⟩))/\((((w6.setCell ⟨r,0,none⟩ (.pointer (some ⟨g,0,none⟩))).setCell ⟨r,1,none⟩ (.int .i64 (n4:Int))).setCell ⟨r,2,none⟩ (.pointer (some ⟨g,0,none⟩))).setCell ⟨r,3,none⟩ (.int .i64 (n5:Int))).drew.cell? ⟨b7,3,none⟩=some (.int .i64 (n5:Int)):=by
         obtain⟨p0,p1,p2,p3⟩:=aW k1;obtain⟨t0,t1,t2,t3⟩:=aW k2;exact⟨p0,p1,p2,p3,t0,t1,t2,t3⟩
        have HS5:=hdd hS5;clear q1 q2 k1 k2 hS5 R6x;refine wp_region_noPanic ?_;refine jZ (fun w'=>w'.cell? ⟨b6,0,none⟩=some (.pointer (some ⟨g,0,none⟩))/\w'.cell? ⟨b6,1,none⟩=some (.int .i64 (n2:Int))/\w'.cell? ⟨b6,2,none⟩=some (.pointer (some ⟨g,0,none⟩))/\w'.cell? ⟨b6,3,none⟩=some (.int .i64 (n3:Int))/\w'.cell? ⟨b7,0,none⟩=some (.pointer (some ⟨g,0,none⟩))/\w'.cell? ⟨b7,1,none⟩=some (.int .i64 (n4:Int))/\w'.cell? ⟨b7,2,none⟩=some (.pointer (some ⟨g,0,none⟩))/\w'.cell? ⟨b7,3,none⟩=some (.int .i64 (n5:Int))) 7 (by kernel_rfl) ?_;have hSd:(fun w':World=>w'.cell? ⟨b6,0,none⟩=some (.pointer (some ⟨g,0,none⟩))/\w'.cell? ⟨b6,1,none⟩=some (.int .i64 (n2:Int))/\w'.cell? ⟨b6,2,none⟩=some (.pointer (some ⟨g,0,none⟩))/\w'.cell? ⟨b6,3,none⟩=some (.int .i64 (n3:Int))/\w'.cell? ⟨b7,0,none⟩=some (.pointer (some ⟨g,0,none⟩))/\w'.cell? ⟨b7,1,none⟩=some (.int .i64 (n4:Int))/\w'.cell? ⟨b7,2,none⟩=some (.pointer (some ⟨g,0,none⟩))/\w'.cell? ⟨b7,3,none⟩=some (.int .i64 (n5:Int))) w6.drew:=⟨y0,y1,y2,y3,z0,z1,z2,z3⟩
        refine aM 0 (.slice (some ⟨r,0,none⟩) 2 c) rfl (by kernel_rfl) (by kernel_rfl) (by kernel_rfl) (by kernel_rfl) (fun _ _ _ h=>h) (by rfl) ?_ (by assumption) ?_
        . intro w' hSw;(try dsimp only at hSw);go_split_ands;go_simp;all_goals rfl
        simp only[asR,asL,asN,asO];refine aM 1 (.slice (some ⟨r,0,none⟩) 2 c) rfl (by kernel_rfl) (by kernel_rfl) (by kernel_rfl) (by kernel_rfl) (fun _ _ _ h=>h) (by rfl) ?_ (by assumption) ?_
        . intro w' hSw;(try dsimp only at hSw);go_split_ands;go_simp;all_goals rfl
        simp only[asR,asL,asN,asO];refine aM 2 (.agg #[.pointer (some ⟨g,0,none⟩),.int .i64 (n4:Int),.pointer (some ⟨g,0,none⟩),.int .i64 (n5:Int)]) rfl (by kernel_rfl) (by kernel_rfl) (by kernel_rfl) (by kernel_rfl) (fun _ _ _ h=>h) (by rfl) ?_ (by assumption) ?_
        . intro w' hSw;(try dsimp only at hSw);go_split_ands;go_simp;all_goals rfl
        simp only[asR,asL,asN,asO];refine aM 3 (.agg #[.pointer (some ⟨g,0,none⟩),.int .i64 (n2:Int),.pointer (some ⟨g,0,none⟩),.int .i64 (n3:Int)]) rfl (by kernel_rfl) (by kernel_rfl) (by kernel_rfl) (by kernel_rfl) (fun _ _ _ h=>h) (by rfl) ?_ (by assumption) ?_
        . intro w' hSw;(try dsimp only at hSw);go_split_ands;go_simp;all_goals rfl
        simp only[asR,asL,asN,asO];refine aM 4 (.pointer (some ⟨r,0,none⟩)) rfl (by kernel_rfl) (by kernel_rfl) (by kernel_rfl) (by kernel_rfl) (fun _ _ _ h=>h) (by rfl) ?_ (by assumption) ?_
        . intro w' hSw;(try dsimp only at hSw);go_split_ands;go_simp;all_goals rfl
        simp only[asR,asL,asN,asO];refine dW 5 (by kernel_rfl) rfl fun K hK=> ?_;go_simp;refine hK.out _ _ (fun _=>HS5.out) ?_;clear hK hSd;have hSd:=HS5.out
        try simp only[asR,asL,asN,asO]
        refine aM 6 (.pointer (some ⟨r,4,none⟩)) rfl (by kernel_rfl) (by kernel_rfl) (by kernel_rfl) (by kernel_rfl) (fun _ _ _ h=>h) (by rfl) ?_ (by assumption) ?_
        . intro w' hSw;(try dsimp only at hSw);go_split_ands;go_simp;all_goals rfl
        simp only[asR,asL,asN,asO];refine dW 7 (by kernel_rfl) rfl fun K hK=> ?_;go_simp;refine hK.out _ _ (fun h=>absurd rfl h) ?_;clear hK hSd HS5;refine lL (by kernel_rfl) ?_;refine NoPanic.normal ?_
        try simp only[asR,asL,asN,asO]
        generalize ((((((((w6.setCell ⟨r,0,none⟩ (.pointer (some ⟨g,0,none⟩))).setCell ⟨r,1,none⟩ (.int .i64 (n4:Int))).setCell ⟨r,2,none⟩ (.pointer (some ⟨g,0,none⟩))).setCell ⟨r,3,none⟩ (.int .i64 (n5:Int))).setCell ⟨r,4,none⟩ (.pointer (some ⟨g,0,none⟩))).setCell ⟨r,5,none⟩ (.int .i64 (n2:Int))).setCell ⟨r,6,none⟩ (.pointer (some ⟨g,0,none⟩))).setCell ⟨r,7,none⟩ (.int .i64 (n3:Int))).drew=wz at HF|-;clear a0 a1 a2 a3 a4 a5 a6 a7 y0 y1 y2 y3 z0 z1 z2 z3 hz n1 n2' n3' n4';go_wp2
        go_ret2
        exact HF.out
      . have HF:=hdd (show pK w B ns g (N+107) (pO g (mR ca cb cc (cutB true true true))) (.returned (.tuple #[.slice p 2 c,.nilIface])) w6 from⟨[(A1,i),(A2,j),(B1,k),(B2,l),((.sub (.leaf ca) (.root (.leaf cc))),n2),((.leaf cb),n3),((.add (.leaf ca) (.root (.leaf cc))),n4),((.leaf cb),n5)],_,⟨_,[(n2,n3),(n4,n5)],rfl,HO.out,⟨⟨m4,m5⟩,⟨m6,m7⟩,trivial⟩⟩,R6.out.subl (asP _ _)⟩)
        clear HO R6;go_wp2
        go_ret2
        exact HF.out
end
end Go.Proofs.YtaojpfcboainmaaGreatDoor
