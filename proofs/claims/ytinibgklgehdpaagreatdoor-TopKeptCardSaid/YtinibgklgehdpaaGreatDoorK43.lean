/- A part of what the last text stands on. -/
import Derived.Test.YtinibgklgehdpaaGreatDoorK42
namespace Go.Proofs.YtinibgklgehdpaaGreatDoor
open Go.ChangeShapes Go.WideShapes Go.ChangeAt Go.RowKit Qa Qb Qc
set_option linter.all false
set_option maxHeartbeats 20000000
set_option maxRecDepth 100000
variable{P:Program}{w:World}{a:Act}{o:Oper}{ops:Array Oper}{rest:List Oper}{Q:Exit→Act→World→Prop}{v:Value}
namespace Fl
theorem wpList_load_row_w(hwd:Region.wanted o (yielded ops a.tmps)=true)(ty:TypeId)(x:Operand)(ho:o.op=.load ty x)(g:Nat)(hx:a.eval x=.pointer (some ⟨g,0,none⟩))(t:TypeId)(cs:Array Value)(fr:Nat×Nat)(d:TypeDesc)(hg:w.heap[g]?=some (.cells cs t fr))(hu:P.underlying ty=some d)(hd:(match d with|.struct _|.array _ _=>true|_=>false)=true)(hi:(P.info? ty).map (·.size)=some cs.size)(h:wpList P ops Q rest (a.put o.dst (.agg cs)) w):wpList P ops Q (o::rest) a w :=
 wpList_step fun K hK=>by rw[if_pos hwd];exact wp_load_row ty x ho g hx t cs fr d hg hu hd hi (hK _ _ h)
theorem Zpu(v:Value)(l:List At)(n who:Int)(w:World)(rl:RAts w.cell? v l)(hg:∀g∈l,GOk g)(hn:I64 n)(hw:I64 who)(hT:Tabs w.cell?) :
 Calls Tryz.prog 6 #[v,.int .i64 n,.int .i64 who] w fun e w'=>e=.returned (.bool true)∧Below w.heap.size w w':=by
 have h1:=bad_any n;have h2:=Zd2 who 4;have hr:=Zz0 n;have hp:=Zb2 who (many:=4) (by decide);obtain⟨B,hB⟩:∃P,Hid (badI n=P):=⟨_,rfl⟩;obtain⟨i,hi⟩:∃P,Hid (Zcw who 4=P):=⟨_,rfl⟩;rw[hB.out]at h1 hr;rw[hi.out]at h2 hp;have H1:=Lib.hid (fun w=>h1 w hn);have H2:=Lib.hid (fun w=>h2 w hw (by decide));have HG:=Lib.hid hg;have hi4:0≤i∧i≤3:=by omega
 obtain⟨k,rfl⟩:∃k:Nat,i=k:=⟨i.toNat,by omega⟩;have hkl:k<4:=by omega
 have Hi4:=Lib.hid hi4;have Hr:=Lib.hid hr;obtain⟨A,lc,rfl,hf⟩:=id rl;clear h1 h2 hB hi hg hn hw hp hf hi4 hr
 go_enter Tryz.func6,Tryz.ntmps6
 go_wp2_with fail
 refine(H1.out _).mono ?_;rintro e wz ⟨rfl,rfl⟩
 go_wp2_with fail
 refine(H2.out _).mono ?_;rintro e wz ⟨rfl,rfl⟩
 go_wp2_with fail
 refine(Zyn _ l 60 _ rl HG.out (by decide)).mono ?_;rintro e w1 ⟨v1,a,rfl,hb1,o1,ha,hal⟩;have Ha:=Lib.hid ha;obtain⟨A1,c1,rfl⟩:=o1.form;have r1:=o1.reads (by omega);have hba:=Zac w1 (.cells #[.int .i64 8,.int .i64 k,.int .i64 0,.string ⟨#[]⟩,.int .i64 3,.int .i64 k,.int .i64 0,.string ⟨#[]⟩] 58);have hy:=RAts.ofBlk [Zbk k,Zc1 k] (Blk.new w1 58 #[.int .i64 8,.int .i64 k,.int .i64 0,.string ⟨#[]⟩,.int .i64 3,.int .i64 k,.int .i64 0,.string ⟨#[]⟩]) rfl (by simp);have hbl1:=hb1.trans (hba.mono hb1.size);have hz1:=hbl1.size;clear o1 ha rl
 go_wp2_with fail
 refine(Zq3 _ _ a [Zbk k,Zc1 k] _ (r1.mono RAt.mono (Zaa hba)) hy (by simp;omega)).mono ?_;rintro e w2 ⟨v2,rfl,hb2,o2⟩;have hbl2:=hbl1.trans (hb2.mono hz1);have hz2:=hbl2.size;have hl2:(a++[Zbk k,Zc1 k]).length≤100:=by simp;omega
 have Ha2:Hid (Acts (a++[Zbk k,Zc1 k])):=Ha.out.append (Acts.cons (Zh0 Hi4.out) (Acts.cons (Zpz Hi4.out) Acts.nil));have Hlaw:=Lib.hid (Zxl Hr.out Ha.out Hi4.out);obtain⟨ls,has⟩:∃ls,Hid (a++[Zbk k,Zc1 k]=ls):=⟨_,rfl⟩;rw[has.out]at o2 hl2 Ha2 Hlaw;obtain⟨A2,c2,rfl⟩:=o2.form;have r2:=o2.reads (by omega);clear o2 hy hba r1 has
 go_wp2_with fail
 refine(Zrj B _ ls _ Hr.out r2 Ha2.out (by omega) (hT.mono (Zaa hbl2))).mono ?_;rintro e w3 ⟨X1,x1,X2,xn,x2,X3,xm,x3,rfl,hb3,-,-,rxv,-⟩;have hbl3:=hbl2.trans (hb3.mono hz2);have hz3:=hbl3.size;have r3:=r2.mono RAt.mono (Zaa hb3);obtain⟨AX,hAX⟩:∃a,Hid (((run B ls).away.length:Int)=a):=⟨_,rfl⟩;rw[hAX.out]
 go_upto_region 5 with fail
 refine Zo fun W4 hk4 hsz4 hb4=>?_
 clear hsz4;have hbl4:=hbl3.trans (hb4.mono hz3);have hz4:=hbl4.size;have r4:=r3.mono RAt.mono (Zaa hb4);have rx4:=rxv.mono RVw.mono (Zaa hb4);have hba:=Zac W4 (.cells #[.int .i64 7,.int .i64 k,.int .i64 0,.string ⟨#[]⟩,.int .i64 8,.int .i64 k,.int .i64 0,.string ⟨#[]⟩] 58);have hy:=RAts.ofBlk [Zb4 k 0,Zbk k] (Blk.new W4 58 #[.int .i64 7,.int .i64 k,.int .i64 0,.string ⟨#[]⟩,.int .i64 8,.int .i64 k,.int .i64 0,.string ⟨#[]⟩]) rfl (by simp);clear r2 r3 rxv hAX
 go_wp2_with fail
 refine(Zq3 _ _ ls [Zb4 k 0,Zbk k] _ (r4.mono RAt.mono (Zaa hba)) hy (by simp;omega)).mono ?_;rintro e w5 ⟨v5,rfl,hb5,o5⟩;have hb45:=hba.trans (hb5.mono hba.size);have hbl5:=hbl4.trans (hb45.mono hz4);have hz5:=hbl5.size;have Ha5:Hid (Acts (ls++[Zb4 k 0,Zbk k])):=Ha2.out.append (Acts.cons (Zrx Hi4.out (by decide)) (Acts.cons (Zh0 Hi4.out) Acts.nil));have hl5:(ls++[Zb4 k 0,Zbk k]).length≤200:=by simp;omega
 obtain⟨lt,hlt⟩:∃lt,Hid (ls++[Zb4 k 0,Zbk k]=lt):=⟨_,rfl⟩;rw[hlt.out]at o5 hl5 Ha5 Hlaw;obtain⟨A5,c5,rfl⟩:=o5.form;have r5:=o5.reads (by omega);clear o5 hy hba hlt r4
 go_wp2_with fail
 refine(Zrj B _ lt _ Hr.out r5 Ha5.out (by omega) (hT.mono (Zaa hbl5))).mono ?_;rintro e w6 ⟨Y1,y1,Y2,yn,y2,Y3,ym,y3,rfl,hb6,-,-,ryv,-⟩;have hbl6:=hbl5.trans (hb6.mono hz5);have hz6:=hbl6.size;have hb46:=hb45.trans (hb6.mono hb45.size);have hk46:=hk4.kept hb46;have rx6:=rx4.mono RVw.mono (Zaa hb46);obtain⟨AY,hAY⟩:∃a,Hid (((run B lt).away.length:Int)=a):=⟨_,rfl⟩;rw[hAY.out]
 go_upto_region 6 with fail
 refine Zo fun W7 hk7 hsz7 hb7=>?_
 clear hsz7;have hbl7:=hbl6.trans (hb7.mono hz6);have hz7:=hbl7.size;have g1:=(hk46.kept hb7).cell 0;have g2:=hk7.cell 0;simp at g1 g2;have q7:=Zaa hb7;obtain⟨-,hx⟩:=RVws.at (rx6.mono RVw.mono q7);obtain⟨-,hy⟩:=RVws.at (ryv.mono RVw.mono q7);obtain⟨b1,o1,c1,e1,t1,p1,rfl,x0,xr,xc,xb,xv,xp,rc1,rb1,rv1,rp1⟩:=hx k (by rw[Zes];exact hkl);obtain⟨b2,o2,c2,e2,t2,p2,rfl,y0,yr,yc,yb,yv,yp,rc2,rb2,rv2,rp2⟩:=hy k (by rw[Zes];exact hkl);rw[Zwl]at x0 xr rc1 rb1 rv1 rp1 y0 yr rc2 rb2 rv2 rp2;generalize vwAt (run B ls) k=P at *;generalize vwAt (run B lt) k=Q at *;have hkI:(k:Int)<4:=by omega
 have HXC:=Lib.hid (And.intro rc1 (And.intro rb1 (And.intro rv1 rp1)));have HYC:=Lib.hid (And.intro rc2 (And.intro rb2 (And.intro rv2 rp2)));obtain⟨cA1,cc1,rfl,-⟩:=id rc1;obtain⟨bA1,bc1,rfl,-⟩:=id rb1;obtain⟨vA1,vc1,rfl,-⟩:=id rv1;obtain⟨pA1,pc1,rfl,-⟩:=id rp1;obtain⟨cA2,cc2,rfl,-⟩:=id rc2;obtain⟨bA2,bc2,rfl,-⟩:=id rb2;obtain⟨vA2,vc2,rfl,-⟩:=id rv2;obtain⟨pA2,pc2,rfl,-⟩:=id rp2;clear rc1 rb1 rv1 rp1 rc2 rb2 rv2 rp2 hx hy hAY rx4 rx6 ryv r5
 go_upto_region 9 with fail
 refine Zo fun W8 hk18 hsz8 hb8=>?_
 clear hsz8;have q8:=Zaa hb8;have g2:=q8 _ _ g2;have y0:=q8 _ _ y0;have yr:=q8 _ _ yr;have yc:=q8 _ _ yc;have yb:=q8 _ _ yb;have yv:=q8 _ _ yv;have yp:=q8 _ _ yp;clear x0 xr xc xb xv xp g1
 go_upto_region 10 with fail
 refine Zo fun W9 hk2 hsz9 hb9'=>?_
 clear hsz9;have hk1:=hk18.kept hb9';have hb9:=hb8.trans (hb9'.mono hb8.size);have hbl9:=hbl7.trans (hb9.mono hz7);have hz9:=hbl9.size;have u1:=hk1.cell 0;have u2:=hk2.cell 0;have w5:=hk2.cell 5;simp at u1 u2 w5
 by_cases hkB:(k:Int)=B
 ·have hL:=Hlaw.out;rw[if_pos hkB]at hL;have e1:P.up=false:=hL.1;have e2:Q.up=false:=hL.2;rw[e1]at u1;rw[e2]at u2;have HkB:=Lib.hid hkB;have hkb:((k:Int)==B)=true:=by simpa using hkB
  clear hkB hL y0 yr yc yb yv yp g2 w5 e1 e2;go_wp2;go_ret;exact⟨rfl,hbl9⟩
 ·have hL:=Hlaw.out;rw[if_neg hkB]at hL;obtain⟨e1,e2,hS,hpl⟩:=hL;rw[e1]at u1;rw[e2]at u2;have HkB:=Lib.hid hkB;have hkb:((k:Int)==B)=false:=by simpa using hkB
  have hp0:Q.pool.length=0:=by rw[hpl];rfl
  rw[hp0]at w5 hk2;have HS:=Lib.hid hS;have q9:=Zaa hb9;clear hkB y0 yr yc yb yv yp g2 e1 e2 hpl hp0 hS
  go_upto_region 12 with fail
  go_wp2_with (first|(refine wpList_load_row_w rfl 43 _ rfl _ rfl _ _ _ _ hk1 Tryz.underlying43 rfl (by kernel_rfl) ?_)|(refine wpList_load_row_w rfl 43 _ rfl _ rfl _ _ _ _ hk2 Tryz.underlying43 rfl (by kernel_rfl) ?_))
  obtain⟨s1,s2,s3,s4⟩:=HS.out;obtain⟨rc1,rb1,rv1,-⟩:=HXC.out;obtain⟨rc2,rb2,rv2,-⟩:=HYC.out;rw[←s1];refine(Kp.sameKnown_any P.up Q.up P.round _ _ _ _ _ _ _ _ P.certs P.bats P.votes _ (rc1.mono RCrt.mono q9) (rb1.mono RBat.mono q9) (rv1.mono RSlot.mono q9) (by rw[s2];exact rc2.mono RCrt.mono q9) (by rw[s3];exact rb2.mono RBat.mono q9) (by rw[s4];exact rv2.mono RSlot.mono q9) ⟨_,_,_,rfl⟩ ⟨_,_,_,rfl⟩).mono ?_;rintro e w10 ⟨rfl,hb10⟩;have w5':=Zaa hb10 _ _ w5;clear s1 s2 s3 s4 rc1 rb1 rv1 rc2 rb2 rv2 w5 u1 u2;go_wp2;go_ret;exact⟨rfl,hbl9.trans (hb10.mono hz9)⟩
theorem Zoh{H:Type}{enc:TypeId×Value→H}(W:World)(hT:Tabs W.cell?){base:Nat}{v1 v2:Value}{d d1 d2:DataW H}{p p1 p2:List MemPlace}(hval:Value.okWide Tryz.prog W .any base 22 v)(h:DataW.Trod enc Tryz.prog W 0 (fun _=>true) true 22 v d p)(hw:∀n∈DataW.weights Tryz.prog 22 d,n≤reachBytes)(hval1:Value.okWide Tryz.prog W .any base 3 v1)(h1:DataW.Trod enc Tryz.prog W 0 (fun _=>true) true 3 v1 d1 p1)(hw1:∀n∈DataW.weights Tryz.prog 3 d1,n≤reachBytes)(hval2:Value.okWide Tryz.prog W .any base 3 v2)(h2:DataW.Trod enc Tryz.prog W 0 (fun _=>true) true 3 v2 d2 p2)(hw2:∀n∈DataW.weights Tryz.prog 3 d2,n≤reachBytes):Calls Tryz.prog 6 #[v,v1,v2] W fun e w'=>e=.returned (.bool true)∧Below W.heap.size W w':=by
 obtain⟨l,hl,hg⟩:=Zsz hval h hw;obtain⟨n,rfl,hn⟩:=Zrm hval1 h1 hw1;obtain⟨m,rfl,hm⟩:=Zrm hval2 h2 hw2;exact Zpu _ l n m _ hl hg hn hm hT
end Fl
open Fl in
theorem topKept_lifted(os:Os)(started:os.Started)(H:Type)(enc:TypeId×Value→H) :
 ReturnsInHanded {} Tryz.checked os 6 .any (fun w args=>(Rows.topKeptSpec.pre enc Tryz.prog Tryz.f6 [] false w args∧laidMetH Tryz.prog Zvd w)∧sizedMet enc Tryz.prog Tryz.f6 (OpenSpec.ofChange Rows.topKeptSpec) false w args) (Rows.topKeptSpec.post enc Tryz.prog Tryz.f6 false true false false):=by
 refine returnsInHanded_of_change_and (C:=Tryz.checked) (X:=fun w _=>laidMetH Tryz.prog Zvd w) (fun _ _ _ hh h=>h.of_heap hh) own_ started (by kernel_rfl) Tryz.func6
  (ChangeSpec.witness_shaped (enc:=enc) (C:=Tryz.checked) (os:=os) (X:=fun w _=>laidMetH Tryz.prog Zvd w) false (World.doorLaid Tryz.prog 400 os) #[.slice none 0 0,.int .i64 0,.int .i64 0] 8 rfl (World.shaped_of_RefB (by kernel_rfl) (by kernel_rfl)) (by kernel_rfl) (by kernel_rfl) (by kernel_rfl) (Zx4 os _)) ?_
 intro W base args ds gs before hval0 hW _ hsz hL _;have hval:∀(j:Nat) t v,Tryz.f6.params[j]?=some t→args[j]?=some v→Value.okWide Tryz.prog W .any base t v:=hval0;have hW':=hW;obtain⟨p,q,hA,hV,rfl,hfz,hnd⟩:=hW;obtain⟨rfl,rfl⟩:=trodVars_none hV;have hA:DataW.TrodAll enc Tryz.prog W 0 (fun _=>true) true Tryz.f6.params.toList args.toList ds p:=hA;rw[Tryz.params6]at hA hval hsz;obtain⟨v0,v1,v2,d0,d1,d2,p0,p1,p2,rfl,rfl,rfl,h0,h1,h2⟩:=trodAll_three hA;have hs0:∀n∈DataW.weights Tryz.prog _ d0,n≤reachBytes:=fun n hn=>by simpa using List.all_eq_true.1 hsz n (DataW.weights_mem_each (j:=0) rfl rfl n hn)
 have hs1:∀n∈DataW.weights Tryz.prog _ d1,n≤reachBytes:=fun n hn=>by simpa using List.all_eq_true.1 hsz n (DataW.weights_mem_each (j:=1) rfl rfl n hn)
 have hs2:∀n∈DataW.weights Tryz.prog _ d2,n≤reachBytes:=fun n hn=>by simpa using List.all_eq_true.1 hsz n (DataW.weights_mem_each (j:=2) rfl rfl n hn)
 refine(Zoh W (Zzg hL) (hval 0 _ _ rfl rfl) h0 hs0 (hval 1 _ _ rfl rfl) h1 hs1 (hval 2 _ _ rfl rfl) h2 hs2).mono fun e W' ⟨he,hb⟩=>?_
 exact Zva Zzk (b:=4) rfl Tryz.underlying4 rfl (Zur _ (by kernel_rfl)) rfl hW' he hb
theorem topKept_holds:Rows.TopKeptSaid :=
 OpenClaim.holds_of_wide 6 Tryz.f6 rfl rfl rfl rfl rfl rfl rfl ⟨rfl,rfl,rfl,rfl,rfl⟩ rfl rfl rfl rfl rfl (by kernel_rfl) Tryz.func6 (by kernel_rfl)
  (of_decide_eq_true (by kernel_rfl)) (by unfold Func.isWrapper;first|(rw[if_pos (by decide +kernel)];kernel_rfl)|(rw[if_neg (by decide +kernel)];exact⟨rfl,rfl⟩))
  (fun os started H enc _=>topKept_lifted os started H enc)
theorem topKept_card:Rows.TopKeptCardSaid :=
 Claim7.holds_tied_plain_at .later [] [.widerDeep,.data,.data] true Rows.topKeptCard.stood.harness false
  topKept_holds (fun _ h=>by cases h) (by kernel_rfl) (fun _ h=>by cases h) topKept_row_tie rfl ⟨rfl,rfl⟩ (by kernel_rfl) rfl
  (fun f fn hf hfn=>by
   obtain rfl : f = 6 := Option.some.inj ((show Tryz.prog.funcNamed "sheaves/sheavestop.TopKept" = some 6 by kernel_rfl).symm.trans hf) |>.symm
   obtain rfl:fn=Tryz.f6:=(Option.some.inj (Tryz.func6.symm.trans hfn)).symm
   exact⟨by kernel_rfl,fun j t ht=>by
    have hall:(Tryz.f6.params.toList.all fun u=> !Tryz.prog.wantsStandIn u)=true:=by kernel_rfl
    have:=List.all_eq_true.1 hall t (by simpa using Array.mem_of_getElem? ht)
    exact(show Tryz.prog.wantsStandIn t=false by simpa using this)⟩)
  (by kernel_rfl)
end Go.Proofs.YtinibgklgehdpaaGreatDoor
