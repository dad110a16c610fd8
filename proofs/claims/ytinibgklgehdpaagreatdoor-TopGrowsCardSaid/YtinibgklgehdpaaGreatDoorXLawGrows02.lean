/- The law TopGrows: what a node knows stays, as long as nobody crashes: it answers true at every argument, and changes none of them: no condition; its card: the tables tied to the program's text. -/
import Derived.Test.YtinibgklgehdpaaGreatDoorXLawGrows01
import Derived.Test.YtinibgklgehdpaaGreatDoorXLawGrows01
namespace Go.Proofs.YtinibgklgehdpaaGreatDoor
open Go.ChangeShapes Go.WideShapes Go.ChangeAt Go.RowKit Qa Qb Qc
set_option linter.all false
set_option maxHeartbeats 20000000
set_option maxRecDepth 100000
variable{W:World}{v:Value}{α:Type}{xs:List α}
namespace Fl
theorem take_pre{ys:List α}(h:xs <+: ys):ys.take xs.length=xs:=(List.prefix_iff_eq_take.1 h).symm
theorem topGrows_any(v:Value)(l:List At)(n:Int)(g:At)(w:World)(rl:RAts w.cell? v l)(hg:∀g∈l,GOk g)(hn:I64 n)(hgo:GOk g)(hT:Tabs w.cell?) :
 Calls Tryz.prog 9 #[v,.int .i64 n,.agg #[.int .i64 g.kind,.int .i64 g.node,.int .i64 g.pick,.string g.text]] w fun e w'=>e=.returned (.bool true)∧Below w.heap.size w w':=by
 have h1:=bad_any n;have hr:=Zz0 n;obtain⟨B,hB⟩:∃P,Hid (badI n=P):=⟨_,rfl⟩;rw[hB.out]at h1 hr;have H1:=Lib.hid (fun w=>h1 w hn);have HG:=Lib.hid hg;have Hgo:=Lib.hid (fun w=>Zz8 g w hgo);have Hr:=Lib.hid hr;obtain⟨A,lc,rfl,hf⟩:=id rl;clear h1 hB hg hn hgo hf hr;obtain⟨gk,ga,gb,gt⟩:=g;simp only at Hgo⊢
 go_enter Tryz.func9,Tryz.ntmps9
 go_upto_region 1 with fail
 refine Zo fun W0 hk0 hsz0 hb0=>?_
 clear hsz0;have hz0:=hb0.size;have rl0:=rl.mono RAt.mono (Zaa hb0)
 go_wp2_with fail
 refine(H1.out _).mono ?_;rintro e wz ⟨rfl,rfl⟩
 go_wp2_with fail
 refine(Zyn _ l 60 _ rl0 HG.out (by decide)).mono ?_;rintro e w1 ⟨v1,a,rfl,hb1,o1,ha,hal⟩;have Ha:=Lib.hid ha;obtain⟨A1,c1,rfl⟩:=o1.form;have r1:=o1.reads (by omega);have hbl1:=hb0.trans (hb1.mono hz0);have hz1:=hbl1.size;have hk01:=hk0.kept hb1;have f0:=hk01.cell 0;have f1:=hk01.cell 1;have f2:=hk01.cell 2;have f3:=hk01.cell 3;simp at f0 f1 f2 f3;clear o1 ha rl rl0
 go_wp2_with fail
 refine(Hgo.out _).mono ?_;rintro e w2 ⟨y0,rfl,hb2,hy0⟩;have hbl2:=hbl1.trans (hb2.mono hz1);have hz2:=hbl2.size;have r2:=r1.mono RAt.mono (Zaa hb2);have Hy0:=Lib.hid hy0;obtain⟨yk,yn,yp,yt⟩:=y0;clear r1 f0 f1 f2 f3 hk0 hk01 hy0
 go_upto_region 4 with fail
 refine Zo fun W3 hk3 hsz3 hb3=>?_
 clear hsz3;have d0:=hk3.cell 0;simp at d0
 go_upto_if 25 with fail
 go_cut [25] (fun _ w'=>∃zk zn zp zt,Hid (actE ⟨zk,zn,zp,zt⟩=0)∧Hid (zk≠7)∧Blk w' w2.heap.size 58 #[.int .i64 zk,.int .i64 zn,.int .i64 zp,.string zt]∧Below w2.heap.size w2 w')
 case first =>
  by_cases h7:yk=7
  ·have hb7:(yk==7)=true:=by simpa using h7
   clear h7
   go_wp2_with (refine Zj 4 hk3 ?_)
   intro w4 hk4 hg4;have hb4:Below w2.heap.size w2 w4:=Zab hb3 hb3.size hg4 (by intro q e;injection e;omega);clear d0 hk3 hg4
   go_wp2_with fail
   go_meet;exact⟨10,0,0,ByteArray.empty,Lib.hid Zzn,Lib.hid (by decide),hk4,hb4⟩
  ·have hb7:(yk==7)=false:=by simpa using h7
   have H7:=Lib.hid h7;clear h7
   go_wp2_with fail
   go_meet;exact⟨yk,yn,yp,yt,Hy0,H7,hk3,hb3⟩
 case rest =>
  obtain⟨zk,zn,zp,zt,Hy,Hy7,hky,hbc⟩:=hcut;obtain⟨w4,hw4⟩:∃w4:World,w4=wc:=⟨_,rfl⟩;subst hw4;have hbl4:=hbl2.trans (hbc.mono hz2);have hz4:=hbl4.size;have r4:=r2.mono RAt.mono (Zaa hbc);have Hlaw:=Lib.hid (grows_law Hr.out Ha.out Hy.out Hy7.out);have Hay:Hid (Acts [⟨zk,zn,zp,zt⟩]):=Lib.hid (Acts.cons Hy.out Acts.nil);clear r2 Hy0 d0 hb3 hk3
  go_wp2_with fail
  refine(Zrj B _ a _ Hr.out r4 Ha.out (by omega) (hT.mono (Zaa hbl4))).mono ?_;rintro e w5 ⟨X1,x1,X2,xn,x2,X3,xm,x3,rfl,hb5,hxn,-,rxv,-⟩;have Hxn:=Lib.hid hxn;have hbl5:=hbl4.trans (hb5.mono hz4);have hz5:=hbl5.size;have r5:=r4.mono RAt.mono (Zaa hb5);have hky5:=hky.kept hb5;obtain⟨AX,hAX⟩:∃n:Nat,Hid ((run B a).away.length=n):=⟨_,rfl⟩;rw[hAX.out];clear hxn hAX r4 hky
  go_upto_region 7 with fail
  refine Zo fun W6 hk6 hsz6 hb6=>?_
  clear hsz6;have hbl6:=hbl5.trans (hb6.mono hz5);have hz6:=hbl6.size;have r6:=r5.mono RAt.mono (Zaa hb6);have rx6:=rxv.mono RVw.mono (Zaa hb6);have hky6:=hky5.kept hb6;have f0:=hky6.cell 0;have f1:=hky6.cell 1;have f2:=hky6.cell 2;have f3:=hky6.cell 3;simp at f0 f1 f2 f3;have hba:=Zac W6 (.cells #[.int .i64 zk,.int .i64 zn,.int .i64 zp,.string zt] 58);have hy:=RAts.ofBlk [⟨zk,zn,zp,zt⟩] (Blk.new W6 58 #[.int .i64 zk,.int .i64 zn,.int .i64 zp,.string zt]) rfl (by simp);clear r5 rxv hky5
  go_wp2_with fail
  refine(Zq3 _ _ a [⟨zk,zn,zp,zt⟩] _ (r6.mono RAt.mono (Zaa hba)) hy (by simp;omega)).mono ?_;rintro e w7 ⟨v7,rfl,hb7,o7⟩;have hb67:=hba.trans (hb7.mono hba.size);have hbl7:=hbl6.trans (hb67.mono hz6);have hz7:=hbl7.size;have hl7:(a++[(⟨zk,zn,zp,zt⟩:At)]).length≤200:=by simp;omega
  have Ha7:Hid (Acts (a++[⟨zk,zn,zp,zt⟩])):=Lib.hid (Ha.out.append Hay.out);obtain⟨ls,has⟩:∃ls,Hid (a++[(⟨zk,zn,zp,zt⟩:At)]=ls):=⟨_,rfl⟩;rw[has.out]at o7 hl7 Ha7 Hlaw;obtain⟨A7,c7,rfl⟩:=o7.form;have r7:=o7.reads (by omega);have hk67:=hk6.kept hb67;have rx7:=rx6.mono RVw.mono (Zaa hb67);clear o7 hy hba has r6 rx6 f0 f1 f2 f3 hky6 hk6
  go_wp2_with fail
  refine(Zrj B _ ls _ Hr.out r7 Ha7.out (by omega) (hT.mono (Zaa hbl7))).mono ?_;rintro e w8 ⟨Y1,y1,Y2,yn',y2,Y3,ym,y3,rfl,hb8,hyn,-,ryv,-⟩;have hsl:xn≤yn':=by rw[hyn,Hxn.out];exact Hlaw.out.2
  have hbl8:=hbl7.trans (hb8.mono hz7);have hz8:=hbl8.size;have hk68:=hk67.kept hb8;have rx8:=rx7.mono RVw.mono (Zaa hb8);obtain⟨AY,hAY⟩:∃n:Nat,Hid ((run B ls).away.length=n):=⟨_,rfl⟩;rw[hAY.out];clear hyn hAY r7 rx7 hk67
  go_upto_region 8 with fail
  refine Zo fun W9 hk9 hsz9 hb9=>?_
  clear hsz9;have hbl9:=hbl8.trans (hb9.mono hz8);have hz9:=hbl9.size;have hk69:=hk68.kept hb9;have rx9:=rx8.mono RVw.mono (Zaa hb9);have ry9:=ryv.mono RVw.mono (Zaa hb9);have hslI:(xn:Int)≤yn':=by omega
  clear rx8 ryv hk68;go_wp2
  go_loopw [14,15,16] (fun i _ _ wr=>∃j:Nat,j≤4∧i=.int .i64 j∧Below W9.heap.size W9 wr) (fun i _ _ _=>4-(intOf i).toNat)
  case atStart=>exact⟨0,by omega,rfl,Below.refl _ _⟩
  case round =>
   obtain⟨j,hj,rfl,hbr⟩:=hrel;have hzr:=hbr.size;have hk6r:=hk69.kept hbr;have hk9r:=hk9.kept hbr
   by_cases hlt:j<4
   ·have g1:=hk6r.cell 0;have g2:=hk9r.cell 0;simp at g1 g2;have qr:=Zaa hbr;obtain⟨pc,pb,pv,pr⟩:=Hlaw.out.1 j (by omega) (by omega);obtain⟨-,hx⟩:=RVws.at (rx9.mono RVw.mono qr);obtain⟨-,hy⟩:=RVws.at (ry9.mono RVw.mono qr);obtain⟨b1,o1,c1,e1,t1,p1,rfl,x0,xr,xc,xb,xv,xp,rc1,rb1,rv1,rp1⟩:=hx j (by rw[Zes];exact hlt);obtain⟨b2,o2,c2,e2,t2,p2,rfl,y0,yr,yc,yb,yv,yp,rc2,rb2,rv2,rp2⟩:=hy j (by rw[Zes];exact hlt);rw[Zwl]at x0 xr rc1 rb1 rv1 rp1 y0 yr rc2 rb2 rv2 rp2;generalize vwAt (run B a) j=P at *;generalize vwAt (run B ls) j=Q at *;have hkI:(j:Int)<4:=by omega
    have hcl:=pc.length_le;have hbl':=pb.length_le;have hvl:=pv.length_le;have hc0:¬(Q.certs.length:Int)<P.certs.length:=by omega
    have hb0':¬(Q.bats.length:Int)<P.bats.length:=by omega
    have hv0:¬(Q.votes.length:Int)<P.votes.length:=by omega
    have hr0:¬Q.round<P.round:=by omega
    have HTK:=Lib.hid (And.intro (take_pre pc) (And.intro (take_pre pb) (take_pre pv)));have HXR:=Lib.hid (rng6 x0 xr xc xb xv xp);have HYR:=Lib.hid (rng6 y0 yr yc yb yv yp);have HXC:=Lib.hid (And.intro rc1 (And.intro rb1 (And.intro rv1 rp1)));have HYC:=Lib.hid (And.intro rc2 (And.intro rb2 (And.intro rv2 rp2)));obtain⟨cA1,cc1,rfl,-⟩:=id rc1;obtain⟨bA1,bc1,rfl,-⟩:=id rb1;obtain⟨vA1,vc1,rfl,-⟩:=id rv1;obtain⟨pA1,pc1,rfl,-⟩:=id rp1;obtain⟨cA2,cc2,rfl,-⟩:=id rc2;obtain⟨bA2,bc2,rfl,-⟩:=id rb2;obtain⟨vA2,vc2,rfl,-⟩:=id rv2;obtain⟨pA2,pc2,rfl,-⟩:=id rp2;clear rc1 rb1 rv1 rp1 rc2 rb2 rv2 rp2 hx hy;obtain⟨k1,k2,k3,-⟩:=HYC.out;obtain⟨-,hcc,-,-⟩:=RCrts.at k1;obtain⟨-,hbb,-,-⟩:=RBats.at k2;obtain⟨-,hvv,-,-⟩:=RSlots.at k3;have hccI:(P.certs.length:Int)≤cc2:=by omega
    have hbbI:(P.bats.length:Int)≤bc2:=by omega
    have hvvI:(P.votes.length:Int)≤vc2:=by omega
    have hccN:P.certs.length≤cc2:=by omega
    have hbbN:P.bats.length≤bc2:=by omega
    have hvvN:P.votes.length≤vc2:=by omega
    clear k1 k2 k3 pc pb pv hcc hbb hvv hslI
    go_upto_region 14 with fail
    refine Zo fun WA hkA hszA hbA=>?_
    have hzA:=hbA.size;have qA:=Zaa hbA;have g2:=qA _ _ g2;have y0:=qA _ _ y0;have yr:=qA _ _ yr;have yc:=qA _ _ yc;have yb:=qA _ _ yb;have yv:=qA _ _ yv;have yp:=qA _ _ yp;have hgA:=hkA.lt;clear x0 xr xc xb xv xp g1 hszA
    go_upto_region 15 with fail
    refine Zo fun WB hkB hszB hbB=>?_
    have hkAB:=hkA.kept hbB;have hrB:=hbA.trans (hbB.mono hzA);have hzB:=hrB.size;have p1:=hkAB.cell 1;have p2:=hkAB.cell 2;have p3:=hkAB.cell 3;have p4:=hkAB.cell 4;have q1:=hkB.cell 1;have q2:=hkB.cell 2;have q3:=hkB.cell 3;have q4:=hkB.cell 4;simp at p1 p2 p3 p4 q1 q2 q3 q4;clear y0 yr yc yb yv yp g2 hszB hkA
    go_wp2_with (refine Zai (n:=1) rfl rfl rfl rfl (by kernel_rfl) rfl hkB (by simp) rfl ?_)
    intro WC hXWC hGWC;have hXWC:Blk WC WA.heap.size 43 #[.bool Q.up,.int .i64 Q.round,.slice cA2 P.certs.length cc2,.slice bA2 Q.bats.length bc2,.slice vA2 Q.votes.length vc2,.slice pA2 Q.pool.length pc2]:=hXWC;have hAWC:=hkAB.grown hGWC (by intro e;injection e;omega);have hbWC:Below wr.heap.size wr WC:=Zab hrB hzB hGWC (by intro q e;injection e;omega);have hzWC:=hbWC.size;have p1:=hAWC.cell 1;have p3:=hAWC.cell 3;have p4:=hAWC.cell 4;have q3:=hXWC.cell 3;have q4:=hXWC.cell 4;simp at p1 p3 p4 q3 q4;clear hkAB hkB p2 q1 q2 hGWC
    go_wp2_with (refine Zai (n:=1) rfl rfl rfl rfl (by kernel_rfl) rfl hXWC (by simp) rfl ?_)
    intro WD hXWD hGWD;have hXWD:Blk WD WA.heap.size 43 #[.bool Q.up,.int .i64 Q.round,.slice cA2 P.certs.length cc2,.slice bA2 P.bats.length bc2,.slice vA2 Q.votes.length vc2,.slice pA2 Q.pool.length pc2]:=hXWD;have hAWD:=hAWC.grown hGWD (by intro e;injection e;omega);have hbWD:Below wr.heap.size wr WD:=Zab hbWC hzWC hGWD (by intro q e;injection e;omega);have hzWD:=hbWD.size;have p1:=hAWD.cell 1;have p3:=hAWD.cell 3;have p4:=hAWD.cell 4;have q3:=hXWD.cell 3;have q4:=hXWD.cell 4;simp at p1 p3 p4 q3 q4;clear hAWC hXWC  hGWD
    go_wp2_with (refine Zai (n:=1) rfl rfl rfl rfl (by kernel_rfl) rfl hXWD (by simp) rfl ?_)
    intro WE hXWE hGWE;have hXWE:Blk WE WA.heap.size 43 #[.bool Q.up,.int .i64 Q.round,.slice cA2 P.certs.length cc2,.slice bA2 P.bats.length bc2,.slice vA2 P.votes.length vc2,.slice pA2 Q.pool.length pc2]:=hXWE;have hAWE:=hAWD.grown hGWE (by intro e;injection e;omega);have hbWE:Below wr.heap.size wr WE:=Zab hbWD hzWD hGWE (by intro q e;injection e;omega);have hzWE:=hbWE.size;have p1:=hAWE.cell 1;have p3:=hAWE.cell 3;have p4:=hAWE.cell 4;have q3:=hXWE.cell 3;have q4:=hXWE.cell 4;simp at p1 p3 p4 q3 q4;clear hAWD hXWD  hGWE
    go_wp2_with (refine Zai (n:=1) rfl rfl rfl rfl (by kernel_rfl) rfl hXWE (by simp) rfl ?_)
    intro WF hXWF hGWF;have hXWF:Blk WF WA.heap.size 43 #[.bool Q.up,.int .i64 P.round,.slice cA2 P.certs.length cc2,.slice bA2 P.bats.length bc2,.slice vA2 P.votes.length vc2,.slice pA2 Q.pool.length pc2]:=hXWF;have hAWF:=hAWE.grown hGWF (by intro e;injection e;omega);have hbWF:Below wr.heap.size wr WF:=Zab hbWE hzWE hGWF (by intro q e;injection e;omega);have hzWF:=hbWF.size;clear p1 p3 p4 q3 q4
    go_wp2_with (first|(refine wpList_load_row rfl 43 _ rfl _ rfl _ _ _ _ hAWF Tryz.underlying43 rfl (by kernel_rfl) ?_)|(refine wpList_load_row rfl 43 _ rfl _ rfl _ _ _ _ hXWF Tryz.underlying43 rfl (by kernel_rfl) ?_))
    obtain⟨t1,t2,t3⟩:=HTK.out;obtain⟨rc1,rb1,rv1,-⟩:=HXC.out;obtain⟨rc2,rb2,rv2,-⟩:=HYC.out;have qF:=Zaa hbWF;refine(Kp.sameKnown_any P.up Q.up P.round _ _ _ _ _ _ _ _ P.certs P.bats P.votes _ (rc1.mono RCrt.mono qF) (rb1.mono RBat.mono qF) (rv1.mono RSlot.mono qF) (by have:=RSl.take rc2 hcl;rw[t1]at this;exact this.mono RCrt.mono qF) (by have:=RSl.take rb2 hbl';rw[t2]at this;exact this.mono RBat.mono qF) (by have:=RSl.take rv2 hvl;rw[t3]at this;exact this.mono RSlot.mono qF) ⟨_,_,_,rfl⟩ ⟨_,_,_,rfl⟩).mono ?_;rintro e w10 ⟨rfl,hb10⟩;clear rc1 rb1 rv1 rc2 rb2 rv2 t1 t2 t3;go_wp2;go_roundw
    case rel=>exact⟨j+1,by omega,by go_num,hbr.trans ((hbWF.trans (hb10.mono hzWF)).mono hzr)⟩
    case measure=>simp[intOf];omega
   ·have hkI:¬(j:Int)<4:=by omega
    have n1:=hk6r.cell 1;have n2:=hk9r.cell 1;simp at n1 n2;go_wp2;go_ret;exact⟨rfl,hbl9.trans (hbr.mono hz9)⟩
theorem open_gear1{H:Type}{enc:TypeId×Value→H}{base:Nat}{d:DataW H}{p:List MemPlace}(hval:Value.okWide Tryz.prog W .any base 75 v)(h:DataW.Trod enc Tryz.prog W 0 (fun _=>true) true 75 v d p)(hw:∀n∈DataW.weights Tryz.prog 75 d,n≤reachBytes):∃g:At,v=.agg #[.int .i64 g.kind,.int .i64 g.node,.int .i64 g.pick,.string g.text]∧GOk g:=by
 obtain⟨fuel,h⟩:=h;obtain⟨g,hc,hg⟩:=Zsy H enc W fuel _ _ h hw;exact⟨g,agg_of Tryz.underlying75 hval hc,hg⟩
theorem topGrows_open{H:Type}{enc:TypeId×Value→H}(W:World)(hT:Tabs W.cell?){base:Nat}{v1 v2:Value}{d d1 d2:DataW H}{p p1 p2:List MemPlace}(hval:Value.okWide Tryz.prog W .any base 22 v)(h:DataW.Trod enc Tryz.prog W 0 (fun _=>true) true 22 v d p)(hw:∀n∈DataW.weights Tryz.prog 22 d,n≤reachBytes)(hval1:Value.okWide Tryz.prog W .any base 3 v1)(h1:DataW.Trod enc Tryz.prog W 0 (fun _=>true) true 3 v1 d1 p1)(hw1:∀n∈DataW.weights Tryz.prog 3 d1,n≤reachBytes)(hval2:Value.okWide Tryz.prog W .any base 75 v2)(h2:DataW.Trod enc Tryz.prog W 0 (fun _=>true) true 75 v2 d2 p2)(hw2:∀n∈DataW.weights Tryz.prog 75 d2,n≤reachBytes):Calls Tryz.prog 9 #[v,v1,v2] W fun e w'=>e=.returned (.bool true)∧Below W.heap.size W w':=by
 obtain⟨l,hl,hg⟩:=Zsz hval h hw;obtain⟨n,rfl,hn⟩:=Zrm hval1 h1 hw1;obtain⟨g,rfl,hgo⟩:=open_gear1 hval2 h2 hw2;exact topGrows_any _ l n g _ hl hg hn hgo hT
end Fl
open Fl in
theorem topGrows_lifted(os:Os)(started:os.Started)(H:Type)(enc:TypeId×Value→H) :
 ReturnsInHanded {} Tryz.checked os 9 .any (fun w args=>(Rows.topGrowsSpec.pre enc Tryz.prog Tryz.f9 [] false w args∧laidMetH Tryz.prog Zvd w)∧sizedMet enc Tryz.prog Tryz.f9 (OpenSpec.ofChange Rows.topGrowsSpec) false w args) (Rows.topGrowsSpec.post enc Tryz.prog Tryz.f9 false true false false):=by
 refine returnsInHanded_of_change_and (C:=Tryz.checked) (X:=fun w _=>laidMetH Tryz.prog Zvd w) (fun _ _ _ hh h=>h.of_heap hh) own_ started (by kernel_rfl) Tryz.func9
  (ChangeSpec.witness_shaped (enc:=enc) (C:=Tryz.checked) (os:=os) (X:=fun w _=>laidMetH Tryz.prog Zvd w) false (World.doorLaid Tryz.prog 400 os) #[.slice none 0 0,.int .i64 0,.agg #[.int .i64 0,.int .i64 0,.int .i64 0,.string ⟨#[]⟩]] 8 rfl (World.shaped_of_RefB (by kernel_rfl) (by kernel_rfl)) (by kernel_rfl) (by kernel_rfl) (by kernel_rfl) (Zx4 os _)) ?_
 intro W base args ds gs before hval0 hW _ hsz hL _;have hval:∀(j:Nat) t v,Tryz.f9.params[j]?=some t→args[j]?=some v→Value.okWide Tryz.prog W .any base t v:=hval0;have hW':=hW;obtain⟨p,q,hA,hV,rfl,hfz,hnd⟩:=hW;obtain⟨rfl,rfl⟩:=trodVars_none hV;have hA:DataW.TrodAll enc Tryz.prog W 0 (fun _=>true) true Tryz.f9.params.toList args.toList ds p:=hA;rw[Tryz.params9]at hA hval hsz;obtain⟨v0,v1,v2,d0,d1,d2,p0,p1,p2,rfl,rfl,rfl,h0,h1,h2⟩:=trodAll_three hA;have hs0:∀n∈DataW.weights Tryz.prog _ d0,n≤reachBytes:=fun n hn=>by simpa using List.all_eq_true.1 hsz n (DataW.weights_mem_each (j:=0) rfl rfl n hn)
 have hs1:∀n∈DataW.weights Tryz.prog _ d1,n≤reachBytes:=fun n hn=>by simpa using List.all_eq_true.1 hsz n (DataW.weights_mem_each (j:=1) rfl rfl n hn)
 have hs2:∀n∈DataW.weights Tryz.prog _ d2,n≤reachBytes:=fun n hn=>by simpa using List.all_eq_true.1 hsz n (DataW.weights_mem_each (j:=2) rfl rfl n hn)
 refine(topGrows_open W (Zzg hL) (hval 0 _ _ rfl rfl) h0 hs0 (hval 1 _ _ rfl rfl) h1 hs1 (hval 2 _ _ rfl rfl) h2 hs2).mono fun e W' ⟨he,hb⟩=>?_
 exact Zva Zzk (b:=4) rfl Tryz.underlying4 rfl (Zur _ (by kernel_rfl)) rfl hW' he hb
theorem topGrows_holds:Rows.TopGrowsSaid :=
 OpenClaim.holds_of_wide 9 Tryz.f9 rfl rfl rfl rfl rfl rfl rfl ⟨rfl,rfl,rfl,rfl,rfl⟩ rfl rfl rfl rfl rfl (by kernel_rfl) Tryz.func9 (by kernel_rfl)
  (of_decide_eq_true (by kernel_rfl)) (by unfold Func.isWrapper;first|(rw[if_pos (by decide +kernel)];kernel_rfl)|(rw[if_neg (by decide +kernel)];exact⟨rfl,rfl⟩))
  (fun os started H enc _=>topGrows_lifted os started H enc)
theorem topGrows_card:Rows.TopGrowsCardSaid :=
 Claim7.holds_tied_plain_at .later [] [.widerDeep,.data,.data] true Rows.topGrowsCard.stood.harness false
  topGrows_holds (fun _ h=>by cases h) (by kernel_rfl) (fun _ h=>by cases h) topGrows_row_tie rfl ⟨rfl,rfl⟩ (by kernel_rfl) rfl
  (fun f fn hf hfn=>by
   obtain rfl : f = 9 := Option.some.inj ((show Tryz.prog.funcNamed "sheaves/sheavestop.TopGrows" = some 9 by kernel_rfl).symm.trans hf) |>.symm
   obtain rfl:fn=Tryz.f9:=(Option.some.inj (Tryz.func9.symm.trans hfn)).symm
   exact⟨by kernel_rfl,fun j t ht=>by
    have hall:(Tryz.f9.params.toList.all fun u=> !Tryz.prog.wantsStandIn u)=true:=by kernel_rfl
    have:=List.all_eq_true.1 hall t (by simpa using Array.mem_of_getElem? ht)
    exact(show Tryz.prog.wantsStandIn t=false by simpa using this)⟩)
  (by kernel_rfl)
end Go.Proofs.YtinibgklgehdpaaGreatDoor
