/- The law TopDown: who is down does nothing, hears nothing and says nothing: it answers true at every argument, and changes none of them: no condition; its card: the tables tied to the program's text. -/
import Derived.Test.YtinibgklgehdpaaGreatDoorXLawDown01
import Derived.Test.YtinibgklgehdpaaGreatDoorXLawDown01
namespace Go.Proofs.YtinibgklgehdpaaGreatDoor
open Go.ChangeShapes Go.WideShapes Go.ChangeAt Go.RowKit Qa Qb Qc
set_option linter.all false
set_option maxHeartbeats 20000000
set_option maxRecDepth 100000
variable{v:Value}{j:Nat}{α:Type}{xs:List α}
namespace Fl
theorem filter_take_succ{p:α→Bool}(h:j<xs.length):(xs.take (j+1)).filter p=(xs.take j).filter p++if p xs[j]then [xs[j]]else []:=by
 rw[List.take_succ_eq_append_getElem h,List.filter_append]
 congr 1
 by_cases hp:p xs[j]=true<;>simp[hp]
theorem topDown_any(v v2:Value)(l l2:List At)(n who:Int)(w:World)(rl:RAts w.cell? v l)(hg:∀g∈l,GOk g)(rl2:RAts w.cell? v2 l2)(hg2:∀g∈l2,GOk g)(hn:I64 n)(hw:I64 who)(hT:Tabs w.cell?) :
 Calls Tryz.prog 11 #[v,.int .i64 n,v2,.int .i64 who] w fun e w'=>e=.returned (.bool true)∧Below w.heap.size w w':=by
 have h1:=bad_any n;have h2:=Zd2 who 4;have hr:=Zz0 n;have hp:=Zb2 who (many:=4) (by decide);obtain⟨B,hB⟩:∃P,Hid (badI n=P):=⟨_,rfl⟩;obtain⟨i,hi⟩:∃P,Hid (Zcw who 4=P):=⟨_,rfl⟩;rw[hB.out]at h1 hr;rw[hi.out]at h2 hp;have H1:=Lib.hid (fun w=>h1 w hn);have H2:=Lib.hid (fun w=>h2 w hw (by decide));have HG:=Lib.hid hg;have HG2:=Lib.hid hg2;obtain⟨k,rfl⟩:∃k:Nat,i=k:=⟨i.toNat,by omega⟩;have hkl:k<4:=by omega
 have Hi4:Hid (0≤(k:Int)∧(k:Int)≤3):=Lib.hid (by omega);have Hr:=Lib.hid hr;obtain⟨A,lc,rfl,hf⟩:=id rl;obtain⟨C,lc2,rfl,hf2⟩:=id rl2;clear h1 h2 hB hi hg hg2 hn hw hp hf hf2 hr
 go_enter Tryz.func11,Tryz.ntmps11
 go_wp2_with fail
 refine(H1.out _).mono ?_;rintro e wz ⟨rfl,rfl⟩
 go_wp2_with fail
 refine(H2.out _).mono ?_;rintro e wz ⟨rfl,rfl⟩
 go_wp2_with fail
 refine(Zyn _ l 40 _ rl HG.out (by decide)).mono ?_;rintro e w1 ⟨v1,a,rfl,hb1,o1,ha,hal⟩;have Ha:=Lib.hid ha;obtain⟨A1,c1,rfl⟩:=o1.form;have r1:=o1.reads (by omega);have hba:=Zac w1 (.cells #[.int .i64 7,.int .i64 k,.int .i64 0,.string ⟨#[]⟩] 58);have hy:=RAts.ofBlk [Zb4 k 0] (Blk.new w1 58 #[.int .i64 7,.int .i64 k,.int .i64 0,.string ⟨#[]⟩]) rfl (by simp);have hz1:=hb1.size;have hbl1:=hb1.trans (hba.mono hz1);have hzl1:=hbl1.size;clear o1 ha rl
 go_wp2_with fail
 refine(Zq3 _ _ a [Zb4 k 0] _ (r1.mono RAt.mono (Zaa hba)) hy (by simp;omega)).mono ?_;rintro e w2 ⟨vw,rfl,hb2,o2⟩;have hbl2:=hbl1.trans (hb2.mono hzl1);have hz2:=hbl2.size;have hl2:(a++[Zb4 k 0]).length≤100:=by simp;omega
 have hl0:0<(a++[Zb4 k 0]).length:=by simp
 have Ha2:Hid (Acts (a++[Zb4 k 0])):=Lib.hid (Ha.out.append (Acts.cons (Zrx Hi4.out (by decide)) Acts.nil));have Hlaw:=Lib.hid (fun(m:List At) (hm:Acts m) h8=>down_law (m:=m) Hr.out Ha.out hm h8 Hi4.out);obtain⟨ls,has⟩:∃ls,Hid (a++[Zb4 k 0]=ls):=⟨_,rfl⟩;rw[has.out]at o2 hl2 hl0 Ha2 Hlaw;have o2:=o2.base hzl1;have r2:=o2.reads (by omega)
 obtain⟨g0,cap0,rfl,hg0,hg0l⟩:∃g0 cap0,vw=.slice (some ⟨g0,0,none⟩) ls.length cap0∧w.heap.size≤g0∧g0<w2.heap.size:=by
  rcases o2.own.2 with ⟨_,hn⟩|⟨g0,cap0,cur,e1,e2,e3,_⟩
  ·omega
  ·exact⟨g0,cap0,e1,e2,(Array.getElem?_eq_some_iff.1 e3).1⟩
 clear hy hba r1 has
 go_wp2_with fail
 refine(ranW_any B _ ls _ Hr.out r2 Ha2.out (by omega) (hT.mono (Zaa hbl2))).mono ?_;rintro e w3 ⟨X1,x1,X2,xn,x2,X3,xm,x3,rfl,hb3,hxn,-,rxv,-⟩;have Hxn:=Lib.hid hxn;have hbl3:=hbl2.trans (hb3.mono hz2);have hz3:=hbl3.size;have o3:=o2.kept hb3;obtain⟨AX,hAX⟩:∃n:Nat,Hid ((run B ls).away.length=n):=⟨_,rfl⟩;rw[hAX.out];clear r2 hAX hxn o2
 go_upto_region 5 with fail
 refine Zo fun W4 hk4 hsz4 hb4=>?_
 clear hsz4;have hbl4:=hbl3.trans (hb4.mono hz3);have hz4:=hbl4.size;have o4:=o3.kept hb4;have hz23:=hb3.size;have hz34:=hb4.size;have rx4:=rxv.mono RVw.mono (Za0 _ (Zaa hb4));have rl4:=rl2.mono RAt.mono (Zaa hbl4);clear rxv o3 rl2
 go_wp2_with fail
 refine(Zyn _ l2 20 _ rl4 HG2.out (by decide)).mono ?_;rintro e W5 ⟨v5,m,rfl,hb5,om,hm,hml⟩;have Hm:=Lib.hid hm;have hbl5:=hbl4.trans (hb5.mono hz4);have hz5:=hbl5.size;have o5:=o4.kept hb5;have hk5:=hk4.kept hb5;have rx5:=rx4.mono RVw.mono (Za0 _ (Zaa hb5));have hz45:=hb5.size;obtain⟨mA,mc,rfl⟩:=om.form;have hlt4:=hk4.lt;clear rl4 o4 rx4 hm hk4
 go_wp2_with fail
 go_loopw [11,16,39] (fun vr _ ct wr=>∃(j:Nat) (xs:List At),j≤m.length∧ct=.int .i64 j∧Hid (xs=ls++(m.take j).filter (fun a=>a.kind != 8))∧OwnA wr w.heap.size vr xs∧(∀g,vr.ownBlock=some g→g=g0∨W5.heap.size≤g)∧Chg [g0] W5 wr) (fun _ _ ct _=>m.length-(intOf ct).toNat)
 case atStart=>exact⟨0,ls,Nat.zero_le _,rfl,Lib.hid (by simp),o5,fun g hg=>by simp[Value.ownBlock]at hg;exact .inl hg.symm,Chg.refl _ _⟩
 case round =>
  obtain⟨j,xs,hj,rfl,hxs,hown,hob,hch⟩:=hrel;have hbr:Below w.heap.size W5 wr:=hch.below (by simpa using hg0) (by omega);have hzr:=hch.size;have omr:=om.chg hch (by simp;omega)
  have hxl:xs.length≤120:=by
   rw[hxs.out,List.length_append];have:=List.length_filter_le (fun a:At=>a.kind != 8) (m.take j);rw[List.length_take]at this;omega
  have Hob:=Lib.hid hob;clear hob
  by_cases hlt:j<m.length
  ·have hjI:(j:Int)<m.length:=by omega
   obtain⟨-,-,-,hel⟩:=RAts.at (omr.reads (by omega));obtain⟨b0,o0,rfl,q0,q1,q2,q3⟩:=hel j hlt;have Hft:=Lib.hid (filter_take_succ (p:=fun a:At=>a.kind != 8) hlt);generalize m[j]=y at *;have hba:=Zac wr (.cells #[.int .i64 y.kind,.int .i64 y.node,.int .i64 y.pick,.string y.text] 58);obtain⟨vA,vc,rfl⟩:=hown.form;clear hel omr
   go_upto_region 9 with fail
   refine Zo fun W6 hk6 hsz6 hb6=>?_
   have hown6:=hown.kept hb6;have hch6:Chg [g0] W5 W6:=hch.trans (Chg.of_below hb6 (Nat.le_refl _));have hzr6:=hb6.size;have c0:=hk6.cell 0;have c1:=hk6.cell 1;have c2:=hk6.cell 2;have c3:=hk6.cell 3;simp at c0 c1 c2 c3;clear q0 q1 q2 q3 hba hsz6
   by_cases h8:y.kind=8
   ·have hb8:(y.kind != 8)=false:=by simp[h8]
    have hxs2:Hid (xs=ls++(m.take (j+1)).filter (fun a=>a.kind != 8)):=Lib.hid (by rw[Hft.out,hxs.out,hb8];simp);have hne:¬(y.kind≠8):=by simpa using h8
    clear Hft h8;go_wp2;go_roundw
    case rel=>exact⟨j+1,xs,by omega,by go_num,hxs2,hown6,Hob.out,hch6⟩
    case measure=>simp[intOf];omega
   ·have hb8:(y.kind != 8)=true:=by simpa using h8
    have hxs2:Hid (xs++[y]=ls++(m.take (j+1)).filter (fun a=>a.kind != 8)):=Lib.hid (by rw[Hft.out,hxs.out,hb8];simp);have hba:=Zac W6 (.cells #[.int .i64 y.kind,.int .i64 y.node,.int .i64 y.pick,.string y.text] 58);have hy:=RAts.ofBlk [y] (Blk.new W6 58 #[.int .i64 y.kind,.int .i64 y.node,.int .i64 y.pick,.string y.text]) rfl (by simp);have hch7:=hch6.alloc (.cells #[.int .i64 y.kind,.int .i64 y.node,.int .i64 y.pick,.string y.text] 58);have hz7:=hba.size;clear Hft h8
    go_wp2_with (at_builtin;go_loud (refine wpList_append_acts (xs:=xs) (ys:=[y]) (k:=1) _ _ rfl rfl rfl (hown6.alloc (.cells #[.int .i64 y.kind,.int .i64 y.node,.int .i64 y.pick,.string y.text] 58)) (by omega) rfl hy rfl (by decide) (by omega) ?_))
    intro v8 w8 ho8 hg8 hob8
    have hch8:Chg [g0] W5 w8:=by
     rcases hv:(Value.slice vA xs.length vc).ownBlock with _|q
     ·rw[hv]at hg8;exact hch7.row hg8 (by simp)
     ·rw[hv]at hg8
      rcases Hob.out q hv with rfl|hq
      ·exact hch7.trans (Chg.of_grown hg8 (by simp))
      ·exact hch7.row hg8 (fun k e=>by injection e with e;omega)
    have hobn:∀g,v8.ownBlock=some g→g=g0∨W5.heap.size≤g:=fun g e=>(hob8 g e).elim (Hob.out g) (fun h=>.inr (by omega))
    clear hob8 hg8 hy hba hown hown6 hch7;go_wp2;go_roundw
    case rel=>exact⟨j+1,xs++[y],by omega,by go_num,hxs2,ho8,hobn,hch8⟩
    case measure=>simp[intOf];omega
  ·have hjI:¬(j:Int)<m.length:=by omega
   have hje:j=m.length:=by omega
   have hxs:Hid (xs=ls++m.filter (fun a=>a.kind != 8)):=Lib.hid (by rw[hxs.out,hje,List.take_length]);have Hmf:Hid (Acts (m.filter (fun a=>a.kind != 8))):=Lib.hid (fun a ha=>Hm.out a (List.mem_filter.1 ha).1);have Hlaw:=Lib.hid (Hlaw.out _ Hmf.out (fun a ha=>by have:=(List.mem_filter.1 ha).2;simpa using this));rw[←hxs.out]at Hlaw;have Ha6:Hid (Acts xs):=Lib.hid (by rw[hxs.out];exact Ha2.out.append Hmf.out);have rxr:=rx5.mono RVw.mono (Zil hch (by simp;omega));have hkr:=hk5.chg hch (by simp;omega);have hblr:=hbl5.trans hbr;have r6:=hown.reads (by omega);obtain⟨vA,vc,rfl⟩:=hown.form;clear hown hxs hje Hob omr om hj hch rx5 hk5 o5
   go_wp2_with fail
   refine(ranW_any B _ xs _ Hr.out r6 Ha6.out (by omega) (hT.mono (Zaa hblr))).mono ?_;rintro e w7 ⟨Y1,y1,Y2,yn,y2,Y3,ym,y3,rfl,hb7,hyn,-,ryv,rys⟩;have Hyn:=Lib.hid hyn;have hzr':=hblr.size;have hbl7:=hblr.trans (hb7.mono hzr');have hz7:=hbl7.size;have hk7:=hkr.kept hb7;have rx7:=rxr.mono RVw.mono (Za0 _ (Zaa hb7));obtain⟨AY,hAY⟩:∃n:Nat,Hid ((run B xs).away.length=n):=⟨_,rfl⟩;rw[hAY.out];clear hyn hAY r6 rxr hkr hxl hjI hlt
   go_upto_region 13 with fail
   refine Zo fun W8 hk8 hsz8 hb8=>?_
   clear hsz8;have hbl8:=hbl7.trans (hb8.mono hz7);have hz8:=hbl8.size;have hk78:=hk7.kept hb8;have ry8:=(ryv.mono RVw.mono (View.from_le _ _)).mono RVw.mono (Zaa hb8);have rs8:=(rys.mono RSign.mono (View.from_le _ _)).mono RSign.mono (Zaa hb8);have rx8:=(rx7.mono RVw.mono (Za0 _ (Zaa hb8))).mono RVw.mono (View.from_le _ _);have g1:=hk78.cell 0;have n1:=hk78.cell 1;have g2:=hk8.cell 0;have n2:=hk8.cell 1;simp at g1 g2 n1 n2;obtain⟨hdown,hsame,t,ht,hts⟩:=Hlaw.out;have hln:(run B xs).signs.length=(run B ls).signs.length+t.length:=by rw[ht,List.length_append]
   have hlt2:∀j (hj:j<(run B xs).signs.length),xn≤j→(run B xs).signs[j].node≠(k:Int):=by
    intro j hj hxj;have hxn:=Hxn.out
    have e:(run B xs).signs[j]=t[j-xn]'(by omega):=by
     have:(run B xs).signs[j]?=some (t[j-xn]'(by omega)):=by
      rw[ht,List.getElem?_append_right (by omega),hxn.symm,List.getElem?_eq_getElem (by omega)]
     rw[List.getElem?_eq_getElem hj]at this;exact Option.some.inj this
    rw[e];exact hts _ (List.getElem_mem _)
   have hyl:yn≤140737488355328:=by have:=rs8.small (by decide);have:=Hyn.out;omega
   have hxy:xn≤yn:=by have:=Hxn.out;have:=Hyn.out;omega
   obtain⟨-,-,-,hsat⟩:=RSigns.at rs8;have Hsat:=Lib.hid hsat;have Hlt2:=Lib.hid hlt2;obtain⟨-,hx⟩:=RVws.at (rx8);obtain⟨-,hy⟩:=RVws.at (ry8);obtain⟨b1,o1,c1,e1,t1,p1,rfl,x0,xr,xc,xb,xv,xp,rc1,rb1,rv1,rp1⟩:=hx k (by rw[Zes];exact hkl);obtain⟨b2,o2,c2,e2,t2,p2,rfl,y0,yr,yc,yb,yv,yp,rc2,rb2,rv2,rp2⟩:=hy k (by rw[Zes];exact hkl);rw[Zwl]at x0 xr rc1 rb1 rv1 rp1 y0 yr rc2 rb2 rv2 rp2;generalize vwAt (run B ls) k=P at *;generalize vwAt (run B xs) k=Q at *;have HS:=Lib.hid hsame;have hkI:(k:Int)<4:=by omega
   have HXR:=Lib.hid (rng6 x0 xr xc xb xv xp);have HYR:=Lib.hid (rng6 y0 yr yc yb yv yp);have HXC:=Lib.hid (And.intro rc1 (And.intro rb1 (And.intro rv1 rp1)));have HYC:=Lib.hid (And.intro rc2 (And.intro rb2 (And.intro rv2 rp2)));obtain⟨cA1,cc1,rfl,-⟩:=id rc1;obtain⟨bA1,bc1,rfl,-⟩:=id rb1;obtain⟨vA1,vc1,rfl,-⟩:=id rv1;obtain⟨pA1,pc1,rfl,-⟩:=id rp1;obtain⟨cA2,cc2,rfl,-⟩:=id rc2;obtain⟨bA2,bc2,rfl,-⟩:=id rb2;obtain⟨vA2,vc2,rfl,-⟩:=id rv2;obtain⟨pA2,pc2,rfl,-⟩:=id rp2;clear rc1 rb1 rv1 rp1 rc2 rb2 rv2 rp2 hx hy;rw[hdown]at y0;clear hsat hlt2 hsame hdown ht hts hln Hlaw rx7 ry8 rx8 rs8 ryv rys hk7 x0 xr xc xb xv xp yr yc yb yv yp
   go_wp2_with fail
   go_loopw [14,19] (fun s i wr=>∃j:Nat,xn≤j∧j≤yn∧s=.int .i64 0∧i=.int .i64 j∧Below W8.heap.size W8 wr) (fun _ i _=>yn-(intOf i).toNat)
   case atStart=>exact⟨xn,Nat.le_refl _,hxy,rfl,rfl,Below.refl _ _⟩
   case round =>
    obtain⟨j,hxj,hj,rfl,rfl,hbj⟩:=hrel;have hzj:=hbj.size;have q:=Zaa hbj;have g1:=q _ _ g1;have g2:=q _ _ g2;have n2:=q _ _ n2
    by_cases hlt:j<yn
    ·have hjI:(j:Int)<yn:=by omega
     obtain⟨bs,os,ds,rfl,s0,-,-,-,-⟩:=Hsat.out j (by rw[←Hyn.out];exact hlt);have hq:=Hlt2.out j (by rw[←Hyn.out];exact hlt) hxj;have s0:=q _ _ s0;generalize ((run B xs).signs[j]'(by rw[←Hyn.out];exact hlt)).node=z at *;have hqb:(z==(k:Int))=false:=by simpa using hq
     clear y0 n1;go_wp2;go_roundw
     case rel=>exact⟨j+1,by omega,by omega,rfl,by go_num,hbj⟩
     case measure=>simp[intOf];omega
    ·have hjI:¬(j:Int)<yn:=by omega
     have HXR:=Lib.hid (fun j u hu=>q _ _ (HXR.out j u hu));have HYR:=Lib.hid (fun j u hu=>q _ _ (HYR.out j u hu));obtain⟨rc1,rb1,rv1,rp1⟩:=HXC.out;obtain⟨rc2,rb2,rv2,rp2⟩:=HYC.out;have HXC:=Lib.hid (And.intro (rc1.mono RCrt.mono q) (And.intro (rb1.mono RBat.mono q) (And.intro (rv1.mono RSlot.mono q) (rp1.mono q))));have HYC:=Lib.hid (And.intro (rc2.mono RCrt.mono q) (And.intro (rb2.mono RBat.mono q) (And.intro (rv2.mono RSlot.mono q) (rp2.mono q))));clear rc1 rb1 rv1 rp1 rc2 rb2 rv2 rp2 y0 n1
     go_wp2_with fail
     refine Zr [15] (.q 0 (.q 1 (.q 2 (.q 3 (.q 4 (.q 5 (.q 6 (.q 7 (.q 8 (.q 9 (.q 10 (.q 11 (.q 12 (.l 13 (.q 14 (.qc 15 .nil)))))))))))))))) fun W hS=>?_
     repeat((first|refine pq (h:=⟨_,fun w' hS=>by(have k1:=Zaa hS _ _ g1;have k2:=Zaa hS _ _ g2;go_simp;exact rfl),?_⟩)|refine Zq ?_);simp only[sx])
     refine pl_q (by assumption) rfl rfl ?_;apply Exists.intro;refine⟨fun w' hS=>Zmn 43 _ rfl _ _ rfl _ _ (fun j u hu=>Zaa hS _ _ (HXR.out j u hu)) Tryz.underlying43 rfl (by kernel_rfl),?_⟩;simp only[List.getElem_toArray,List.getElem_cons_zero,List.getElem_cons_succ,Act.put,List.setIfInBounds_toArray,List.set_cons_zero,List.set_cons_succ]
     repeat((first|refine pq (h:=⟨_,fun w' hS=>by(have k1:=Zaa hS _ _ g1;have k2:=Zaa hS _ _ g2;go_simp;exact rfl),?_⟩)|refine Zq ?_);simp only[sx])
     refine pl_q (by assumption) rfl rfl ?_;apply Exists.intro;refine⟨fun w' hS=>Zmn 43 _ rfl _ _ rfl _ _ (fun j u hu=>Zaa hS _ _ (HYR.out j u hu)) Tryz.underlying43 rfl (by kernel_rfl),?_⟩;simp only[List.getElem_toArray,List.getElem_cons_zero,List.getElem_cons_succ,Act.put,List.setIfInBounds_toArray,List.set_cons_zero,List.set_cons_succ]
     repeat(refine Zq ?_;simp only[sx])
     have qW:=Zaa hS;refine Zd fun K hK=>?_
     try simp only[sy]
     go_simp;obtain⟨s1,s2,s3,s4⟩:=HS.out;obtain⟨rc1,rb1,rv1,-⟩:=HXC.out;obtain⟨rc2,rb2,rv2,-⟩:=HYC.out;rw[←s1];refine(Kp.sameKnown_any P.up Q.up P.round _ _ _ _ _ _ _ _ P.certs P.bats P.votes _ (rc1.mono RCrt.mono qW) (rb1.mono RBat.mono qW) (rv1.mono RSlot.mono qW) (by rw[s2];exact rc2.mono RCrt.mono qW) (by rw[s3];exact rb2.mono RBat.mono qW) (by rw[s4];exact rv2.mono RSlot.mono qW) ⟨_,_,_,rfl⟩ ⟨_,_,_,rfl⟩).mono ?_;rintro e w10 ⟨rfl,hb10⟩;clear s1 s2 s3 s4 rc1 rb1 rv1 rc2 rb2 rv2;refine hK.out _ _ (hS.trans (hb10.mono hS.size)) fun hS=>?_
     clear hK K
     try simp only[sx]
     repeat(refine Zq ?_;simp only[sx])
     refine Zah ?_;go_wp2;go_ret;exact⟨rfl,hbl8.trans ((hbj.trans (hS.mono hzj)).mono hz8)⟩
theorem topDown_open{H:Type}{enc:TypeId×Value→H}(W:World)(hT:Tabs W.cell?){base:Nat}{v1 v2 v3:Value}{d d1 d2 d3:DataW H}{p p1 p2 p3:List MemPlace}(hval:Value.okWide Tryz.prog W .any base 22 v)(h:DataW.Trod enc Tryz.prog W 0 (fun _=>true) true 22 v d p)(hw:∀n∈DataW.weights Tryz.prog 22 d,n≤reachBytes)(hval1:Value.okWide Tryz.prog W .any base 3 v1)(h1:DataW.Trod enc Tryz.prog W 0 (fun _=>true) true 3 v1 d1 p1)(hw1:∀n∈DataW.weights Tryz.prog 3 d1,n≤reachBytes)(hval2:Value.okWide Tryz.prog W .any base 22 v2)(h2:DataW.Trod enc Tryz.prog W 0 (fun _=>true) true 22 v2 d2 p2)(hw2:∀n∈DataW.weights Tryz.prog 22 d2,n≤reachBytes)(hval3:Value.okWide Tryz.prog W .any base 3 v3)(h3:DataW.Trod enc Tryz.prog W 0 (fun _=>true) true 3 v3 d3 p3)(hw3:∀n∈DataW.weights Tryz.prog 3 d3,n≤reachBytes):Calls Tryz.prog 11 #[v,v1,v2,v3] W fun e w'=>e=.returned (.bool true)∧Below W.heap.size W w':=by
 obtain⟨l,hl,hg⟩:=Zsz hval h hw;obtain⟨n,rfl,hn⟩:=Zrm hval1 h1 hw1;obtain⟨l2,hl2,hg2⟩:=Zsz hval2 h2 hw2;obtain⟨m,rfl,hm⟩:=Zrm hval3 h3 hw3;exact topDown_any _ _ l l2 n m _ hl hg hl2 hg2 hn hm hT
end Fl
open Fl in
theorem topDown_lifted(os:Os)(started:os.Started)(H:Type)(enc:TypeId×Value→H) :
 ReturnsInHanded {} Tryz.checked os 11 .any (fun w args=>(Rows.topDownSpec.pre enc Tryz.prog Tryz.f11 [] false w args∧laidMetH Tryz.prog Zvd w)∧sizedMet enc Tryz.prog Tryz.f11 (OpenSpec.ofChange Rows.topDownSpec) false w args) (Rows.topDownSpec.post enc Tryz.prog Tryz.f11 false true false false):=by
 refine returnsInHanded_of_change_and (C:=Tryz.checked) (X:=fun w _=>laidMetH Tryz.prog Zvd w) (fun _ _ _ hh h=>h.of_heap hh) own_ started (by kernel_rfl) Tryz.func11
  (ChangeSpec.witness_shaped (enc:=enc) (C:=Tryz.checked) (os:=os) (X:=fun w _=>laidMetH Tryz.prog Zvd w) false (World.doorLaid Tryz.prog 400 os) #[.slice none 0 0,.int .i64 0,.slice none 0 0,.int .i64 0] 8 rfl (World.shaped_of_RefB (by kernel_rfl) (by kernel_rfl)) (by kernel_rfl) (by kernel_rfl) (by kernel_rfl) (Zx4 os _)) ?_
 intro W base args ds gs before hval0 hW _ hsz hL _;have hval:∀(j:Nat) t v,Tryz.f11.params[j]?=some t→args[j]?=some v→Value.okWide Tryz.prog W .any base t v:=hval0;have hW':=hW;obtain⟨p,q,hA,hV,rfl,hfz,hnd⟩:=hW;obtain⟨rfl,rfl⟩:=trodVars_none hV;have hA:DataW.TrodAll enc Tryz.prog W 0 (fun _=>true) true Tryz.f11.params.toList args.toList ds p:=hA;rw[Tryz.params11]at hA hval hsz;obtain⟨v0,v1,v2,v3,d0,d1,d2,d3,p0,p1,p2,p3,rfl,rfl,rfl,h0,h1,h2,h3⟩:=trodAll_four hA;have hs0:∀n∈DataW.weights Tryz.prog _ d0,n≤reachBytes:=fun n hn=>by simpa using List.all_eq_true.1 hsz n (DataW.weights_mem_each (j:=0) rfl rfl n hn)
 have hs1:∀n∈DataW.weights Tryz.prog _ d1,n≤reachBytes:=fun n hn=>by simpa using List.all_eq_true.1 hsz n (DataW.weights_mem_each (j:=1) rfl rfl n hn)
 have hs2:∀n∈DataW.weights Tryz.prog _ d2,n≤reachBytes:=fun n hn=>by simpa using List.all_eq_true.1 hsz n (DataW.weights_mem_each (j:=2) rfl rfl n hn)
 have hs3:∀n∈DataW.weights Tryz.prog _ d3,n≤reachBytes:=fun n hn=>by simpa using List.all_eq_true.1 hsz n (DataW.weights_mem_each (j:=3) rfl rfl n hn)
 refine(topDown_open W (Zzg hL) (hval 0 _ _ rfl rfl) h0 hs0 (hval 1 _ _ rfl rfl) h1 hs1 (hval 2 _ _ rfl rfl) h2 hs2 (hval 3 _ _ rfl rfl) h3 hs3).mono fun e W' ⟨he,hb⟩=>?_
 exact Zva Zzk (b:=4) rfl Tryz.underlying4 rfl (Zur _ (by kernel_rfl)) rfl hW' he hb
theorem topDown_holds:Rows.TopDownSaid :=
 OpenClaim.holds_of_wide 11 Tryz.f11 rfl rfl rfl rfl rfl rfl rfl ⟨rfl,rfl,rfl,rfl,rfl⟩ rfl rfl rfl rfl rfl (by kernel_rfl) Tryz.func11 (by kernel_rfl)
  (of_decide_eq_true (by kernel_rfl)) (by unfold Func.isWrapper;first|(rw[if_pos (by decide +kernel)];kernel_rfl)|(rw[if_neg (by decide +kernel)];exact⟨rfl,rfl⟩))
  (fun os started H enc _=>topDown_lifted os started H enc)
theorem topDown_card:Rows.TopDownCardSaid :=
 Claim7.holds_tied_plain_at .later [] [.widerDeep,.data,.data] true Rows.topDownCard.stood.harness false
  topDown_holds (fun _ h=>by cases h) (by kernel_rfl) (fun _ h=>by cases h) topDown_row_tie rfl ⟨rfl,rfl⟩ (by kernel_rfl) rfl
  (fun f fn hf hfn=>by
   obtain rfl : f = 11 := Option.some.inj ((show Tryz.prog.funcNamed "sheaves/sheavestop.TopDown" = some 11 by kernel_rfl).symm.trans hf) |>.symm
   obtain rfl:fn=Tryz.f11:=(Option.some.inj (Tryz.func11.symm.trans hfn)).symm
   exact⟨by kernel_rfl,fun j t ht=>by
    have hall:(Tryz.f11.params.toList.all fun u=> !Tryz.prog.wantsStandIn u)=true:=by kernel_rfl
    have:=List.all_eq_true.1 hall t (by simpa using Array.mem_of_getElem? ht)
    exact(show Tryz.prog.wantsStandIn t=false by simpa using this)⟩)
  (by kernel_rfl)
end Go.Proofs.YtinibgklgehdpaaGreatDoor
