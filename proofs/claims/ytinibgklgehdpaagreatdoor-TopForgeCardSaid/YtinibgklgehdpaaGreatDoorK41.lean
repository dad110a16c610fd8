/- A part of what the last text stands on. -/
import Derived.Test.YtinibgklgehdpaaGreatDoorK16
import Derived.Test.YtinibgklgehdpaaGreatDoorK31
import Derived.Test.YtinibgklgehdpaaGreatDoorK39
import Derived.Test.YtinibgklgehdpaaGreatDoorK40
namespace Go.Proofs.YtinibgklgehdpaaGreatDoor
open Go.ChangeShapes Go.WideShapes Go.ChangeAt Go.RowKit Qa Qb Qc
set_option linter.all false
set_option maxHeartbeats 20000000
set_option maxRecDepth 100000
namespace Fl
structure MsgOut (w w':World) (e:Ending):Prop where
 out:∃(m:Msg) (vt vb vp vd cb cp cv:Value),e=.returned (.agg (msgC m vt vb vp vd cb cp cv))∧Below w.heap.size w w'∧RMsg (View.from w'.cell? w.heap.size) m vt vb vp vd cb cp cv∧∀s∈m.bat.txs,s.size≤20
def nilS:Value:=.slice none 0 0
theorem Zqe(k a b c:Int)(v:Value)(l:List ByteArray)(w:World)(hk:I64 k)(ha:I64 a)(hb:I64 b)(hc:I64 c)(rt:RTexts w.cell? v l)(hs:∀s∈l,s.size≤140737488355328) :
 Calls Tryz.prog 44 #[.agg (rawC k a b c v)] w fun e w'=>MsgOut w w' e:=by
 obtain⟨P1,hP1⟩:∃P,Hid (Zcw c 4=P):=⟨_,rfl⟩;obtain⟨P2,hP2⟩:∃P,Hid (Zcw b 4=P):=⟨_,rfl⟩;obtain⟨P3,hP3⟩:∃P,Hid (Zcw k 5=P):=⟨_,rfl⟩;have h1:=Zbp c 4;have h2:=Zbp b 4;have h3:=Zbp k 5;rw[hP1.out]at h1;rw[hP2.out]at h2;rw[hP3.out]at h3;have hr3:=Zb2 k (many:=5) (by decide);rw[hP3.out]at hr3;have H1:=Lib.hid (fun w=>h1 w hc (by decide));have H2:=Lib.hid (fun w=>h2 w hb (by decide));have H3:=Lib.hid (fun w=>h3 w hk (by decide));have Ha:=Lib.hid ha;have Hb:=Lib.hid hb;have Hc:=Lib.hid hc;have Hs:=Lib.hid hs;have e2:IntKind.i64.wrap (1+P3)=1+P3:=by rw[IntKind.wrap_i64];omega
 clear h1 h2 h3 hP1 hP2 hP3 ha hb hc hk hs;unfold rawC
 go_enter Tryz.func44,Tryz.ntmps44
 go_upto_region 1 with fail
 refine Za6 _ _ _ _ _ (fun W=>Code.wp _ _ _ _ W) (fun W hk1 hk2 hsz hbl=>?_)
 go_cut [3] (fun p w'=>∃gb,p=.pointer (some ⟨gb,0,none⟩)∧W.heap.size≤gb∧Blk w' gb 66 #[.int .i64 P1,.int .i64 P2,.int .i64 (1+P3),.int .i64 0,.int .i64 0,nilS,.int .i64 0,.int .i64 0,nilS,nilS,.int .i64 0,.int .i64 0,nilS,.int .i64 0,.int .i64 0,nilS,nilS,nilS,.int .i64 0]∧Below W.heap.size W w')
 case first =>
  refine Zt (fun w'=>Below W.heap.size W w') (fun w'=>Below W.heap.size W w') [12] (.q 0 (.q 1 (.q 3 (.q 4 (.q 6 (.q 7 (.alt 2 (.alt 5 (.alt 8 (.q 9 (.q 10 (.l 11 (.l 12 .nil)))) 11 (.l 8 (.q 9 (.q 10 (.l 12 .nil))))) 11 (.l 5 (.l 8 (.q 9 (.q 10 (.l 12 .nil)))))) 11 (.l 2 (.l 5 (.l 8 (.q 9 (.q 10 (.l 12 .nil))))))))))))) ?_ ?_
  ·exact⟨Zad _,Zad _⟩
  intro W3 _ hS3;have hk13:=hk1.kept hS3;have hzz:=hS3.size
  repeat((first|refine pq (h:=⟨_,fun w' hS=>by(have hq:=hk1.kept hS;have g0:=hq.cell 0;have g3:=hq.cell 3;have g2:=hq.cell 2;simp at g0 g3 g2;go_simp;exact rfl),?_⟩)|refine Zq ?_);simp only[sx])
  repeat' (first
   |refine Zcl ?_ ?_
   |(
    refine Zd fun K hK=>?_
    try simp only[sy]
    go_simp
    first
     |(
      with_reducible refine(H1.out _).mono ?_
      rintro e wz ⟨rfl,rfl⟩;refine hK.out _ _ (by assumption) fun hS=>?_
      clear hK K
      try simp only[sx]
      repeat(refine Zq ?_;simp only[sx]))
     |(
      with_reducible refine(H2.out _).mono ?_
      rintro e wz ⟨rfl,rfl⟩;refine hK.out _ _ (by assumption) fun hS=>?_
      clear hK K
      try simp only[sx]
      repeat(refine Zq ?_;simp only[sx]))
     |(
      with_reducible refine(H3.out _).mono ?_
      rintro e wz ⟨rfl,rfl⟩;refine hK.out _ _ (by assumption) fun hS=>?_
      clear hK K
      try simp only[sx]
      repeat(refine Zq ?_;simp only[sx]))
     |(
      refine hK.out _ _ (Zn8 (by assumption)) fun hS=>?_
      clear hK K
      try simp only[sx]
      refine Za7 _ _ _ (fun W=>Pl.wp _ _ _ _ _ _ _ W) (fun W9 hkn hsn hbn=>?_);have hS9:Below W.heap.size W W9:=hS3.trans (hbn.mono hS3.size)
      repeat(refine Zq ?_;simp only[sx]))))
  all_goals
   refine Zc fun K hK=>?_
   try simp only[sy]
   refine Zh 19 hkn ?_;intro w7 hB7 hg7;have hb7:Below W.heap.size W w7:=Zab hS9 hS9.size hg7 (by intro q e;injection e;omega);refine hK.out _ _ ?_;clear hK K
   try simp only[sx]
   refine Zah ?_
   go_wp2_with fail
   go_meet;exact⟨_,rfl,hzz,hB7,hb7⟩
 case rest =>
  obtain⟨gb,rfl,hgz,hB,hbc⟩:=hcut;obtain⟨w0,hw0⟩:∃w0:World,w0=wc:=⟨_,rfl⟩;subst hw0;have hk1c:=hk1.kept hbc;have hk2c:=hk2.kept hbc;have hlt1:=hk1.lt;have hlt2:=hk2.lt;have hz0:=hbc.size;have hgb:=hB.lt;have hbw:Below w.heap.size w w0:=hbl.trans (hbc.mono (by omega));have g2:=hB.cell 2;simp at g2;clear H1 H2 H3 e2 hk1 hk2;have h5:P3=0∨P3=1∨P3=2∨P3=3∨P3=4:=by omega
  clear hr3;have hT2:=rt.mono (Zaa hbw)
  rcases h5 with rfl|rfl|rfl|rfl|rfl
  ·go_wp2_with (refine wpList_load_row rfl 99 _ rfl _ rfl _ _ _ _ hk1c Tryz.underlying99 rfl (by kernel_rfl) ?_)
   refine(Ztn k a b c v l _ Ha.out Hb.out hT2 Hs.out).mono ?_;rintro e w1 ⟨x,vx,rfl,hb1,rx,hx⟩;obtain⟨xA,xc,rfl,hfx⟩:=id rx;clear hfx;have hB1:=hB.kept hb1;have hk2a:=hk2c.kept hb1;have hz1:=hb1.size;clear hk1c g2 hB
   go_wp2_with (refine Zai (n:=3) rfl rfl rfl rfl (by kernel_rfl) rfl hB1 (Nat.le_of_ble_eq_true rfl) rfl ?_)
   intro w2 hB2 hg2;have hB2:Blk w2 gb 66 (msgC ⟨P1,P2,1+0,x,⟨0,0,[],[]⟩,⟨0,0,[]⟩,⟨⟨0,0,[],[]⟩,[]⟩,0⟩ (.slice xA x.txs.length xc) nilS nilS nilS nilS nilS nilS):=hB2;unfold msgC at hB2;dsimp only at hB2;have hk2z:=hk2a.grown hg2 (by simp;omega);have hbz:Below w.heap.size w w2:=Zab (hbw.trans (hb1.mono (by omega))) (by omega) hg2 (by intro q e;injection e;omega);have q2:VLe (View.from w1.cell? w0.heap.size) (View.from w2.cell? (w.heap.size+2)):=(Zax hg2 (by omega)).trans (Za8 (by omega));have rx2:=rx.mono q2;clear hB1 hk2a
   go_wp2_with (first|(refine wpList_load_row rfl 66 _ rfl _ rfl _ _ _ _ hB2 Tryz.underlying66 rfl (by kernel_rfl) ?_)|(refine Zj 19 hk2z ?_))
   intro w9 hk9 hg9;go_wp2;refine bodyPost_ret (Zay rfl rfl (by kernel_rfl) (by kernel_rfl) hk9 rfl) rfl ?_;have q9:VLe (View.from w2.cell? (w.heap.size+2)) (View.from w9.cell? w.heap.size):=(Zax hg9 (by omega)).trans (Za8 (by omega));exact⟨⟨⟨P1,P2,1+0,x,⟨0,0,[],[]⟩,⟨0,0,[]⟩,⟨⟨0,0,[],[]⟩,[]⟩,0⟩,_,nilS,nilS,nilS,nilS,nilS,nilS,rfl,Zab hbz hbz.size hg9 (by intro q e;injection e;omega),⟨rx2.mono q9,RSl.nil _ _ _ _,RSl.nil _ _ _ _,RVec.nil _ _ _,RSl.nil _ _ _ _,RSl.nil _ _ _ _,RVec.nil _ _ _⟩,hx⟩⟩
  ·go_wp2_with (refine wpList_load_row rfl 99 _ rfl _ rfl _ _ _ _ hk1c Tryz.underlying99 rfl (by kernel_rfl) ?_)
   refine(Zk0 k a b c v _ Ha.out Hb.out Hc.out).mono ?_;rintro e w1 ⟨x,vb,vp,rfl,hb1,rb,rp⟩;obtain⟨bA,bc,rfl,hfb⟩:=id rb;obtain⟨pA,pc,rfl,hfp⟩:=id rp;clear hfb hfp;have hB1:=hB.kept hb1;have hk2a:=hk2c.kept hb1;have hz1:=hb1.size;clear hk1c g2 hB
   go_wp2_with (refine Zai (n:=4) rfl rfl rfl rfl (by kernel_rfl) rfl hB1 (Nat.le_of_ble_eq_true rfl) rfl ?_)
   intro w2 hB2 hg2;have hB2:Blk w2 gb 66 (msgC ⟨P1,P2,1+1,⟨0,0,[]⟩,x,⟨0,0,[]⟩,⟨⟨0,0,[],[]⟩,[]⟩,0⟩ nilS (.slice bA x.batches.length bc) (.slice pA x.parents.length pc) nilS nilS nilS nilS):=hB2;unfold msgC at hB2;dsimp only at hB2;have hk2z:=hk2a.grown hg2 (by simp;omega);have hbz:Below w.heap.size w w2:=Zab (hbw.trans (hb1.mono (by omega))) (by omega) hg2 (by intro q e;injection e;omega);have q2:VLe (View.from w1.cell? w0.heap.size) (View.from w2.cell? (w.heap.size+2)):=(Zax hg2 (by omega)).trans (Za8 (by omega));have rb2:=rb.mono RDig.mono q2;have rp2:=rp.mono RDig.mono q2;clear hB1 hk2a
   go_wp2_with (first|(refine wpList_load_row rfl 66 _ rfl _ rfl _ _ _ _ hB2 Tryz.underlying66 rfl (by kernel_rfl) ?_)|(refine Zj 19 hk2z ?_))
   intro w9 hk9 hg9;go_wp2;refine bodyPost_ret (Zay rfl rfl (by kernel_rfl) (by kernel_rfl) hk9 rfl) rfl ?_;have q9:VLe (View.from w2.cell? (w.heap.size+2)) (View.from w9.cell? w.heap.size):=(Zax hg9 (by omega)).trans (Za8 (by omega));exact⟨⟨⟨P1,P2,1+1,⟨0,0,[]⟩,x,⟨0,0,[]⟩,⟨⟨0,0,[],[]⟩,[]⟩,0⟩,nilS,_,_,nilS,nilS,nilS,nilS,rfl,Zab hbz hbz.size hg9 (by intro q e;injection e;omega),⟨RVec.nil _ _ _,rb2.mono RDig.mono q9,rp2.mono RDig.mono q9,RVec.nil _ _ _,RSl.nil _ _ _ _,RSl.nil _ _ _ _,RVec.nil _ _ _⟩,fun s hs=>by cases hs⟩⟩
  ·obtain⟨P4,hP4⟩:∃P,Hid (Zcw a 4=P):=⟨_,rfl⟩;obtain⟨P5,hP5⟩:∃P,Hid (Zcw b 9=P):=⟨_,rfl⟩;have h4:=Zbp a 4;have h5:=Zbp b 9;rw[hP4.out]at h4;rw[hP5.out]at h5;have hr5:=Zb2 b (many:=9) (by decide);rw[hP5.out]at hr5;have e5:IntKind.i64.wrap (1+P5)=1+P5:=by rw[IntKind.wrap_i64];omega
   have H4:=Lib.hid (fun w=>h4 w Ha.out (by decide));have H5:=Lib.hid (fun w=>h5 w Hb.out (by decide));clear h4 h5 hP4 hP5 hr5
   go_upto_region 8 with fail
   refine Zt (fun w'=>Below w0.heap.size w0 w') (fun w'=>Below w0.heap.size w0 w') [14] (.q 0 (.q 1 (.q 3 (.q 4 (.q 7 (.q 8 (.q 9 (.q 10 (.l 2 (.l 5 (.q 6 (.l 11 (.q 12 (.q 13 (.l 14 .nil))))))))))))))) ?_ ?_
   ·exact⟨Zad _,Zad _⟩
   intro W3 _ hS3
   repeat((first|refine pq (h:=⟨_,fun w' hS=>by(have hq:=hk1c.kept hS;have g1:=hq.cell 1;have g2:=hq.cell 2;have g3:=hq.cell 3;simp at g1 g2 g3;go_simp;exact rfl),?_⟩)|refine Zq ?_);simp only[sx])
   refine Zd fun K hK=>?_
   try simp only[sy]
   go_simp;refine(H4.out _).mono ?_;rintro e wz ⟨rfl,rfl⟩;refine hK.out _ _ (hS3) fun hS=>?_
   clear hK K
   try simp only[sx]
   repeat(refine Zq ?_;simp only[sx])
   refine Zd fun K hK=>?_
   try simp only[sy]
   go_simp;refine(H5.out _).mono ?_;rintro e wz ⟨rfl,rfl⟩;refine hK.out _ _ (hS3) fun hS=>?_
   clear hK K
   try simp only[sx]
   repeat(refine Zq ?_;simp only[sx])
   refine Zd fun K hK=>?_
   try simp only[sy]
   go_simp;refine(Znf c a _ Hc.out).mono ?_;rintro e w1 ⟨d,ds,rfl,hb1,rd⟩;obtain⟨dA,dc,rfl,hfd⟩:=id rd;clear hfd;have hz3:=hS3.size;have hS4:=hS3.trans (hb1.mono hz3);have hB1:=hB.kept hS4;have hk2a:=hk2c.kept hS4;have hz1:=hb1.size;refine hK.out _ _ (hS4) fun hS=>?_
   clear hK K
   try simp only[sx]
   repeat(refine Zq ?_;simp only[sx])
   refine Zc fun K hK=>?_
   try simp only[sy]
   refine Zav (n:=3) rfl rfl rfl (by kernel_rfl) rfl hB1 (Nat.le_of_ble_eq_true rfl) rfl ?_;intro w2 hB2 hg2;have hB2:Blk w2 gb 66 (msgC ⟨P1,P2,1+2,⟨0,0,[]⟩,⟨0,0,[],[]⟩,⟨P4,1+P5,ds⟩,⟨⟨0,0,[],[]⟩,[]⟩,0⟩ nilS nilS nilS (.slice dA ds.length dc) nilS nilS nilS):=hB2;unfold msgC at hB2;dsimp only at hB2;have hk2z:=hk2a.grown hg2 (by simp;omega);have hbz:Below w.heap.size w w2:=Zab (hbw.trans (hS4.mono (by omega))) (by omega) hg2 (by intro q e;injection e;omega);have q2:VLe (View.from w1.cell? W3.heap.size) (View.from w2.cell? (w.heap.size+2)):=(Zax hg2 (by omega)).trans (Za8 (by omega));have rd2:=rd.mono q2;clear hk1c g2 hB hB1 hk2a;refine hK.out _ _ ?_;clear hK K
   try simp only[sx]
   refine Zah ?_
   go_wp2_with (first|(refine wpList_load_row rfl 66 _ rfl _ rfl _ _ _ _ hB2 Tryz.underlying66 rfl (by kernel_rfl) ?_)|(refine Zj 19 hk2z ?_))
   intro w9 hk9 hg9;go_wp2;refine bodyPost_ret (Zay rfl rfl (by kernel_rfl) (by kernel_rfl) hk9 rfl) rfl ?_;have q9:VLe (View.from w2.cell? (w.heap.size+2)) (View.from w9.cell? w.heap.size):=(Zax hg9 (by omega)).trans (Za8 (by omega));exact⟨⟨⟨P1,P2,1+2,⟨0,0,[]⟩,⟨0,0,[],[]⟩,⟨P4,1+P5,ds⟩,⟨⟨0,0,[],[]⟩,[]⟩,0⟩,nilS,nilS,nilS,_,nilS,nilS,nilS,rfl,Zab hbz hbz.size hg9 (by intro q e;injection e;omega),⟨RVec.nil _ _ _,RSl.nil _ _ _ _,RSl.nil _ _ _ _,rd2.mono q9,RSl.nil _ _ _ _,RSl.nil _ _ _ _,RVec.nil _ _ _⟩,fun s hs=>by cases hs⟩⟩
  ·go_upto_region 10 with fail
   refine Zt (fun w'=>Below w0.heap.size w0 w') (fun w'=>Below w0.heap.size w0 w') [7] (.q 0 (.q 2 (.q 3 (.l 1 (.l 4 (.q 5 (.q 6 (.l 7 .nil)))))))) ?_ ?_
   ·exact⟨Zad _,Zad _⟩
   intro W3 _ hS3;refine pl_q (by assumption) rfl rfl ?_;apply Exists.intro;refine⟨fun w' hS=>Zfj 99 _ rfl _ rfl _ _ (0,0) _ (hk1c.kept hS) Tryz.underlying99 rfl (by kernel_rfl),?_⟩;simp only[List.getElem_toArray,List.getElem_cons_zero,List.getElem_cons_succ,Act.put,List.setIfInBounds_toArray,List.set_cons_zero,List.set_cons_succ]
   repeat((first|refine pq (h:=⟨_,fun w' hS=>by(have hq:=hk1c.kept hS;have g3:=hq.cell 3;simp at g3;go_simp;exact rfl),?_⟩)|refine Zq ?_);simp only[sx])
   refine Zd fun K hK=>?_
   try simp only[sy]
   go_simp;refine(Zk0 k a b c v _ Ha.out Hb.out Hc.out).mono ?_;rintro e w1 ⟨x,vb,vp,rfl,hb1,rb,rp⟩;obtain⟨bA,bc,rfl,hfb⟩:=id rb;obtain⟨pA,pc,rfl,hfp⟩:=id rp;clear hfb hfp;have hz3:=hS3.size;have hS4:=hS3.trans (hb1.mono hz3);have hz1:=hb1.size;refine hK.out _ _ (hS4) fun hS=>?_
   clear hK K
   try simp only[sx]
   repeat(refine Zq ?_;simp only[sx])
   refine Zd fun K hK=>?_
   try simp only[sy]
   go_simp;refine(Zsc c _ Hc.out).mono ?_;rintro e w4 ⟨vv,vs,rfl,hb4,rv⟩;obtain⟨vA,vc,rfl,hfv⟩:=id rv;clear hfv;have hS5:=hS4.trans (hb4.mono (by omega));have hz4:=hb4.size;have hB1:=hB.kept hS5;have hk2a:=hk2c.kept hS5;refine hK.out _ _ (hS5) fun hS=>?_
   clear hK K
   try simp only[sx]
   repeat(refine Zq ?_;simp only[sx])
   refine Zc fun K hK=>?_
   try simp only[sy]
   refine Zav (n:=5) rfl rfl rfl (by kernel_rfl) rfl hB1 (Nat.le_of_ble_eq_true rfl) rfl ?_;intro w2 hB2 hg2;have hB2:Blk w2 gb 66 (msgC ⟨P1,P2,1+3,⟨0,0,[]⟩,⟨0,0,[],[]⟩,⟨0,0,[]⟩,⟨x,vs⟩,0⟩ nilS nilS nilS nilS (.slice bA x.batches.length bc) (.slice pA x.parents.length pc) (.slice vA vs.length vc)):=hB2;unfold msgC at hB2;dsimp only at hB2;have hk2z:=hk2a.grown hg2 (by simp;omega);have hbz:Below w.heap.size w w2:=Zab (hbw.trans (hS5.mono (by omega))) (by omega) hg2 (by intro q e;injection e;omega);have q2:VLe (View.from w4.cell? w0.heap.size) (View.from w2.cell? (w.heap.size+2)):=(Zax hg2 (by omega)).trans (Za8 (by omega));have rb2:=rb.mono RDig.mono (((Za0 _ (Zaa hb4)).trans (Za8 hz3)).trans q2);have rp2:=rp.mono RDig.mono (((Za0 _ (Zaa hb4)).trans (Za8 hz3)).trans q2);have rv2:=rv.mono ((Za8 (by omega)).trans q2);clear hk1c g2 hB hB1 hk2a;refine hK.out _ _ ?_;clear hK K
   try simp only[sx]
   refine Zah ?_
   go_wp2_with (first|(refine wpList_load_row rfl 66 _ rfl _ rfl _ _ _ _ hB2 Tryz.underlying66 rfl (by kernel_rfl) ?_)|(refine Zj 19 hk2z ?_))
   intro w9 hk9 hg9;go_wp2;refine bodyPost_ret (Zay rfl rfl (by kernel_rfl) (by kernel_rfl) hk9 rfl) rfl ?_;have q9:VLe (View.from w2.cell? (w.heap.size+2)) (View.from w9.cell? w.heap.size):=(Zax hg9 (by omega)).trans (Za8 (by omega));exact⟨⟨⟨P1,P2,1+3,⟨0,0,[]⟩,⟨0,0,[],[]⟩,⟨0,0,[]⟩,⟨x,vs⟩,0⟩,nilS,nilS,nilS,nilS,_,_,_,rfl,Zab hbz hbz.size hg9 (by intro q e;injection e;omega),⟨RVec.nil _ _ _,RSl.nil _ _ _ _,RSl.nil _ _ _ _,RVec.nil _ _ _,rb2.mono RDig.mono q9,rp2.mono RDig.mono q9,rv2.mono q9⟩,fun s hs=>by cases hs⟩⟩
  ·obtain⟨P5,hP5⟩:∃P,Hid (Zcw b 9=P):=⟨_,rfl⟩;have h5:=Zbp b 9;rw[hP5.out]at h5;have hr5:=Zb2 b (many:=9) (by decide);rw[hP5.out]at hr5;have e5:IntKind.i64.wrap (1+P5)=1+P5:=by rw[IntKind.wrap_i64];omega
   have H5:=Lib.hid (fun w=>h5 w Hb.out (by decide));have g22:=hk1c.cell 2;simp at g22;clear h5 hP5 hr5
   go_wp2_with fail
   refine(H5.out _).mono ?_;rintro e wz ⟨rfl,rfl⟩;clear hk1c g2 g22
   go_wp2_with (refine Zai (n:=1) rfl rfl rfl rfl (by kernel_rfl) rfl hB (Nat.le_of_ble_eq_true rfl) rfl ?_)
   intro w2 hB2 hg2;have hB2:Blk w2 gb 66 (msgC ⟨P1,P2,1+4,⟨0,0,[]⟩,⟨0,0,[],[]⟩,⟨0,0,[]⟩,⟨⟨0,0,[],[]⟩,[]⟩,1+P5⟩ nilS nilS nilS nilS nilS nilS nilS):=hB2;unfold msgC at hB2;dsimp only at hB2;have hk2z:=hk2c.grown hg2 (by simp;omega);have hbz:Below w.heap.size w w2:=Zab hbw hbw.size hg2 (by intro q e;injection e;omega);clear hB hk2c
   go_wp2_with (first|(refine wpList_load_row rfl 66 _ rfl _ rfl _ _ _ _ hB2 Tryz.underlying66 rfl (by kernel_rfl) ?_)|(refine Zj 19 hk2z ?_))
   intro w9 hk9 hg9;go_wp2;refine bodyPost_ret (Zay rfl rfl (by kernel_rfl) (by kernel_rfl) hk9 rfl) rfl ?_;have q9:VLe (View.from w2.cell? (w.heap.size+2)) (View.from w9.cell? w.heap.size):=(Zax hg9 (by omega)).trans (Za8 (by omega));exact⟨⟨⟨P1,P2,1+4,⟨0,0,[]⟩,⟨0,0,[],[]⟩,⟨0,0,[]⟩,⟨⟨0,0,[],[]⟩,[]⟩,1+P5⟩,nilS,nilS,nilS,nilS,nilS,nilS,nilS,rfl,Zab hbz hbz.size hg9 (by intro q e;injection e;omega),⟨RVec.nil _ _ _,RSl.nil _ _ _ _,RSl.nil _ _ _ _,RVec.nil _ _ _,RSl.nil _ _ _ _,RSl.nil _ _ _ _,RVec.nil _ _ _⟩,fun s hs=>by cases hs⟩⟩
structure GOk (g:At):Prop where
 k:I64 g.kind
 a:I64 g.node
 b:I64 g.pick
 t:g.text.size≤140737488355328
theorem Zwi(g:At)(w:World)(ha:I64 g.node)(hb:I64 g.pick) :
 Calls Tryz.prog 43 #[.agg #[.int .i64 g.kind,.int .i64 g.node,.int .i64 g.pick,.string g.text]] w fun e w'=>∃t:ByteArray,e=.returned (.string t)∧Below w.heap.size w w'∧t.size≤3:=by
 obtain⟨P1,hP1⟩:∃P,Hid (Zcw g.node 20=P):=⟨_,rfl⟩;obtain⟨P2,hP2⟩:∃P,Hid (Zcw g.pick 20=P):=⟨_,rfl⟩;have h1:=Zd2 g.node 20;have h2:=Zd2 g.pick 20;rw[hP1.out]at h1;rw[hP2.out]at h2;have H1:=Lib.hid (fun w=>h1 w ha (by decide));have H2:=Lib.hid (fun w=>h2 w hb (by decide));clear h1 h2 hP1 hP2 ha hb;obtain⟨gk,ga,gb,gt⟩:=g;simp only at H1 H2⊢;obtain⟨U1,hU1⟩:∃U:UInt8,IntKind.u8.wrap (IntKind.i64.wrap (97+P1))=U.toNat:=⟨_,Zaw _⟩;obtain⟨U2,hU2⟩:∃U:UInt8,IntKind.u8.wrap (IntKind.i64.wrap (97+P2))=U.toNat:=⟨_,Zaw _⟩
 go_enter Tryz.func43,Tryz.ntmps43
 go_upto_region 1 with fail
 refine Zo fun W hk1 hsz hbl=>?_
 refine Zt (fun w'=>Below W.heap.size W w') (fun w'=>Below W.heap.size W w') [12] (.q 0 (.q 1 (.q 5 (.q 6 (.l 2 (.q 3 (.q 4 (.l 7 (.q 8 (.q 9 (.l 10 (.l 11 (.qc 12 .nil))))))))))))) ?_ ?_
 ·exact⟨Zad _,Zad _⟩
 intro W3 _ hS3
 repeat((first|refine pq (h:=⟨_,fun w' hS=>by(have hq:=hk1.kept hS;have g1:=hq.cell 1;have g2:=hq.cell 2;simp at g1 g2;go_simp;exact rfl),?_⟩)|refine Zq ?_);simp only[sx])
 refine Zd fun K hK=>?_
 try simp only[sy]
 go_simp;refine(H1.out _).mono ?_;rintro e wz ⟨rfl,rfl⟩;refine hK.out _ _ (hS3) fun hS=>?_
 clear hK K
 try simp only[sx]
 repeat(refine Zq ?_;simp only[sx])
 refine Zd fun K hK=>?_
 try simp only[sy]
 go_simp;refine(H2.out _).mono ?_;rintro e wz ⟨rfl,rfl⟩;refine hK.out _ _ (hS3) fun hS=>?_
 clear hK K
 try simp only[sx]
 repeat(refine Zq ?_;simp only[sx])
 refine Zd fun K hK=>?_
 try simp only[sy]
 go_simp;have hb5:=Zac W3 (.cells #[.int .u8 116,.int .u8 U1.toNat,.int .u8 U2.toNat] 5);have hn5:=Blk.new W3 5 #[.int .u8 116,.int .u8 U1.toNat,.int .u8 U2.toNat];have hS5:=hS3.trans (hb5.mono hS3.size);have hstr:=Zet (Zn6 (bs:=1) (xs:=[116,U1,U2]) hn5 (by simp) (by simp));simp only[List.length_cons,List.length_nil,Nat.zero_add]at hstr;refine hK.out _ _ (hS5) fun hS=>?_
 clear hK K
 try simp only[sx]
 refine Zd fun K hK=>?_
 try simp only[sy]
 simp only[Nat.reduceAdd]at hstr;go_simp;refine hK.out _ _ (hS5) fun hS=>?_
 clear hK K
 try simp only[sx]
 repeat(refine Zq ?_;simp only[sx])
 refine Zah ?_;go_wp2;go_ret;exact⟨_,rfl,hbl.trans (hS5.mono hbl.size),by rw[Zlp];simp⟩
theorem Zu3(m:Msg):(Zqa m).length≤400:=by
 unfold Zqa;split
 ·rename_i h;exact Nat.le_trans (msgB_len h).2 (by decide)
 ·simp
structure ActOut (w w':World) (e:Ending):Prop where
 out:∃a:At,e=.returned (.agg #[.int .i64 a.kind,.int .i64 a.node,.int .i64 a.pick,.string a.text])∧Below w.heap.size w w'∧actE a=0
theorem Zz8(g:At)(w:World)(hg:GOk g) :
 Calls Tryz.prog 26 #[.agg #[.int .i64 g.kind,.int .i64 g.node,.int .i64 g.pick,.string g.text]] w fun e w'=>ActOut w w' e:=by
 obtain⟨P1,hP1⟩:∃P,Hid (Zcw g.node 4=P):=⟨_,rfl⟩;obtain⟨K,hK⟩:∃P,Hid (Zcw g.kind 20=P):=⟨_,rfl⟩;obtain⟨B4,hB4⟩:∃P,Hid (Zcw g.pick 400=P):=⟨_,rfl⟩;obtain⟨B7,hB7⟩:∃P,Hid (Zcw g.pick 700=P):=⟨_,rfl⟩;have h1:=Zd2 g.node 4;have h2:=Zd2 g.kind 20;have h3:=Zd2 g.pick 400;have h4:=Zd2 g.pick 700;have r1:=Zb2 g.node (many:=4) (by decide);have r2:=Zb2 g.kind (many:=20) (by decide);have r3:=Zb2 g.pick (many:=400) (by decide);have r4:=Zb2 g.pick (many:=700) (by decide);rw[hP1.out]at h1 r1;rw[hK.out]at h2 r2;rw[hB4.out]at h3 r3;rw[hB7.out]at h4 r4;have H1:=Lib.hid (fun w=>h1 w hg.a (by decide));have H2:=Lib.hid (fun w=>h2 w hg.k (by decide));have H3:=Lib.hid (fun w=>h3 w hg.b (by decide));have H4:=Lib.hid (fun w=>h4 w hg.b (by decide));have Hg:=Lib.hid hg;have HW:=Lib.hid (fun w=>Zwi g w hg.a hg.b);have hp:0≤P1∧P1≤3:=by omega
 have Hp:=Lib.hid hp;have R3:Hid (0≤B4∧B4≤400000):=by show _∧_;omega
 have R4:Hid (0≤B7∧B7≤400000):=by show _∧_;omega
 have hKs:K=0∨K=1∨K=2∨K=3∨K=4∨K=5∨K=6∨K=7∨K=8∨K=9∨K=10∨K=11∨K=12∨K=13∨K=14∨K=15∨K=16∨K=17∨K=18∨K=19:=by omega
 have HKs:=Lib.hid hKs;clear h1 h2 h3 h4 r1 r2 r3 r4 hP1 hK hB4 hB7 hg hKs hp;obtain⟨gk,ga,gb,gt⟩:=g;simp only at H1 H2 H3 H4 HW⊢
 go_enter Tryz.func26,Tryz.ntmps26
 go_upto_region 1 with fail
 refine Za6 _ _ _ _ _ (fun W=>Code.wp _ _ _ _ W) (fun W hk1 hk2 hsz hbl=>?_);have g0:=hk1.cell 0;have g1:=hk1.cell 1;simp at g0 g1
 go_wp2_with fail
 refine(H1.out _).mono ?_;rintro e wz ⟨rfl,rfl⟩
 go_wp2_with fail
 refine(H2.out _).mono ?_;rintro e wz ⟨rfl,rfl⟩;have g2:=hk1.cell 2;simp at g2;clear g0 g1 H1 H2;have hz:=hbl.size
 rcases HKs.out with hh|hh|hh|hh|hh|hh|hh|hh|hh|hh|hh|hh|hh|hh|hh|hh|hh|hh|hh|hh
 iterate 2
  ·subst hh;clear g2 HKs H3 H4 R3 R4
   go_wp2_with (refine wpList_load_row rfl 75 _ rfl _ rfl _ _ _ _ hk1 Tryz.underlying75 rfl (by kernel_rfl) ?_)
   refine(HW.out _).mono ?_;rintro e w3 ⟨t,rfl,hb3,ht⟩;have hk23:=hk2.kept hb3;have hb4:=hbl.trans (hb3.mono hz)
   go_wp2_with (refine Zj 4 hk23 ?_)
   intro w9 hk9 hg9;go_wp2;refine bodyPost_ret (Zay rfl rfl (by kernel_rfl) (by kernel_rfl) hk9 rfl) rfl ?_;exact⟨⟨⟨1,P1,0,t⟩,rfl,Zab hb4 hb4.size hg9 (by intro q e;injection e;omega),Zud Hp.out (by omega)⟩⟩
 iterate 4
  ·subst hh;clear g2 HKs H3 H4 R3 R4 HW
   go_wp2_with (refine Zj 4 hk2 ?_)
   intro w9 hk9 hg9;go_wp2;refine bodyPost_ret (Zay rfl rfl (by kernel_rfl) (by kernel_rfl) hk9 rfl) rfl ?_;exact⟨⟨workA P1,rfl,Zab hbl hz hg9 (by intro q e;injection e;omega),Zy1 Hp.out⟩⟩
 iterate 4
  ·subst hh;clear g2 HKs H3 H4 R3 R4 HW
   go_wp2_with (refine Zj 4 hk2 ?_)
   intro w9 hk9 hg9;go_wp2;refine bodyPost_ret (Zay rfl rfl (by kernel_rfl) (by kernel_rfl) hk9 rfl) rfl ?_;exact⟨⟨Zc1 P1,rfl,Zab hbl hz hg9 (by intro q e;injection e;omega),Zpz Hp.out⟩⟩
 iterate 2
  ·subst hh;clear HKs HW
   go_wp2_with fail
   refine(H3.out _).mono ?_;rintro e wz ⟨rfl,rfl⟩;clear g2
   go_wp2_with (refine Zj 4 hk2 ?_)
   intro w9 hk9 hg9;go_wp2;refine bodyPost_ret (Zay rfl rfl (by kernel_rfl) (by kernel_rfl) hk9 rfl) rfl ?_;exact⟨⟨takeA B4,rfl,Zab hbl hz hg9 (by intro q e;injection e;omega),Zy3 R3.out⟩⟩
 iterate 1
  ·subst hh;clear HKs HW
   go_wp2_with fail
   refine(H3.out _).mono ?_;rintro e wz ⟨rfl,rfl⟩;clear g2
   go_wp2_with (refine Zj 4 hk2 ?_)
   intro w9 hk9 hg9;go_wp2;refine bodyPost_ret (Zay rfl rfl (by kernel_rfl) (by kernel_rfl) hk9 rfl) rfl ?_;exact⟨⟨⟨5,0,B4,ByteArray.empty⟩,rfl,Zab hbl hz hg9 (by intro q e;injection e;omega),Zzj R3.out⟩⟩
 iterate 1
  ·subst hh;clear HKs HW
   go_wp2_with fail
   refine(H3.out _).mono ?_;rintro e wz ⟨rfl,rfl⟩;clear g2
   go_wp2_with (refine Zj 4 hk2 ?_)
   intro w9 hk9 hg9;go_wp2;refine bodyPost_ret (Zay rfl rfl (by kernel_rfl) (by kernel_rfl) hk9 rfl) rfl ?_;exact⟨⟨copyA B4,rfl,Zab hbl hz hg9 (by intro q e;injection e;omega),Zzr R3.out⟩⟩
 iterate 1
  ·subst hh;clear HKs HW
   go_wp2_with fail
   refine(H4.out _).mono ?_;rintro e wz ⟨rfl,rfl⟩;clear g2
   go_wp2_with (refine Zj 4 hk2 ?_)
   intro w9 hk9 hg9;go_wp2;refine bodyPost_ret (Zay rfl rfl (by kernel_rfl) (by kernel_rfl) hk9 rfl) rfl ?_;exact⟨⟨Zb4 P1 B7,rfl,Zab hbl hz hg9 (by intro q e;injection e;omega),Zrx Hp.out R4.out⟩⟩
 iterate 1
  ·subst hh;clear g2 HKs H3 H4 R3 R4 HW
   go_wp2_with (refine Zj 4 hk2 ?_)
   intro w9 hk9 hg9;go_wp2;refine bodyPost_ret (Zay rfl rfl (by kernel_rfl) (by kernel_rfl) hk9 rfl) rfl ?_;exact⟨⟨Zbk P1,rfl,Zab hbl hz hg9 (by intro q e;injection e;omega),Zh0 Hp.out⟩⟩
 ·subst hh;clear HKs HW H3 H4 R3 R4;have g0:=hk1.cell 0;have g1:=hk1.cell 1;have g3:=hk1.cell 3;simp at g0 g1 g3
  go_wp2_with fail
  have hba:=Zac W (.cells #[.string gt] 9);have hna:=(Blk.new W 9 #[.string gt]).cell 0;rw[hsz]at hna;have rt:RTexts (W.alloc (.cells #[.string gt] 9)).cell? (.slice (some ⟨w.heap.size+2,0,none⟩) 1 1) [gt]:=RVec.one gt hna (by decide);refine(Zqe gb ga gb ga _ [gt] _ Hg.out.b Hg.out.a Hg.out.b Hg.out.a rt (fun s hs=>by rw[List.mem_singleton.1 hs];exact Hg.out.t)).mono ?_;rintro e w3 ⟨m,vt,vb,vp,vd,cb,cp,cv,rfl,hb3,rm,hms⟩;have hbl3:=hbl.trans ((hba.trans (hb3.mono hba.size)).mono hz);have hk23:=(hk2.kept hba).kept hb3;clear rt hna g0 g1 g2 g3
  go_wp2_with fail
  refine(Zmu m _ _ _ _ _ _ _ _ (rm.mono (View.from_le _ _)) (fun s hs=>Nat.le_trans (hms s hs) (by decide))).mono ?_;rintro e w4 ⟨d,rfl,hb4,rd⟩;have hbl4:=hbl3.trans (hb4.mono hbl3.size);have hk24:=hk23.kept hb4;obtain⟨dA,dc,rfl,hfd⟩:=id rd;have hstr:=Zet (rd.mono (View.from_le _ _));have hlm:=Zu3 m;obtain⟨B,hB⟩:∃B,Hid (Zqa m=B):=⟨_,rfl⟩;rw[hB.out]at hstr hlm⊢;have hz4:=hbl4.size;clear hfd rd rm hms hB
  go_wp2_with (refine Zj 4 hk24 ?_)
  intro w9 hk9 hg9;go_wp2;refine bodyPost_ret (Zay rfl rfl (by kernel_rfl) (by kernel_rfl) hk9 rfl) rfl ?_;exact⟨⟨Zvl P1 (bstr B),rfl,Zab hbl4 hz4 hg9 (by intro q e;injection e;omega),Zxs Hp.out (by rw[Zlp];omega)⟩⟩
 iterate 3
  ·subst hh;clear g2 HKs H3 H4 R3 R4 HW
   go_wp2_with (refine Zj 4 hk2 ?_)
   intro w9 hk9 hg9;go_wp2;refine bodyPost_ret (Zay rfl rfl (by kernel_rfl) (by kernel_rfl) hk9 rfl) rfl ?_;exact⟨⟨flowA,rfl,Zab hbl hz hg9 (by intro q e;injection e;omega),Zzn⟩⟩
structure ActsOut (w w':World) (e:Ending) (p:List At→Prop):Prop where
 out:∃v l,e=.returned v∧Below w.heap.size w w'∧OwnA w' w.heap.size v l∧p l
theorem Zyn(v:Value)(l:List At)(most:Nat)(w:World)(rl:RAts w.cell? v l)(hg:∀g∈l,GOk g)(hm:most≤1000) :
 Calls Tryz.prog 16 #[v,.int .i64 most] w fun e w'=>ActsOut w w' e (fun l'=>Acts l'∧l'.length≤most):=by
 obtain⟨A,lc,rfl,hfl⟩:=id rl;obtain⟨_,hn1,hn2,hel⟩:=RAts.at rl;have Hel:=Lib.hid hel;have Hg:=Lib.hid hg;clear hel hg hfl rl
 go_enter Tryz.func16,Tryz.ntmps16
 go_wp2
 go_loopw [5,6,7] (fun vr ct _ wr=>∃(k:Nat) (xs:List At),k≤l.length∧k≤most∧ct=.int .i64 k∧xs.length≤k∧Hid (Acts xs)∧OwnA wr w.heap.size vr xs∧Below w.heap.size w wr) (fun _ ct _ _=>most-(intOf ct).toNat)
 case atStart=>exact⟨0,[],by omega,by omega,rfl,Nat.le_refl _,Acts.nil,OwnA.nil _ _,Below.refl _ _⟩
 case round =>
  obtain⟨k,xs,hk,hkm,rfl,hxl,hxs,hown,hbl⟩:=hrel;have hz:=hbl.size
  by_cases hlt:k<l.length∧k<most
  ·obtain⟨hlt1,hlt2⟩:=hlt;have hI1:(k:Int)<l.length:=by omega
   have hI2:(k:Int)<most:=by omega
   obtain⟨b0,o0,rfl,q0,q1,q2,q3⟩:=Hel.out k hlt1;have c0:=Zaa hbl _ _ q0;have c1:=Zaa hbl _ _ q1;have c2:=Zaa hbl _ _ q2;have c3:=Zaa hbl _ _ q3;have Hgk:=Lib.hid (Hg.out l[k] (List.getElem_mem hlt1));generalize l[k]=g at *;clear q0 q1 q2 q3
   go_wp2_with fail
   refine(Zz8 g _ Hgk.out).mono ?_;rintro e w3 ⟨a,rfl,hb3,ha⟩;have hown3:=hown.kept hb3;have hbl3:=hbl.trans (hb3.mono hz);have hz3:=hbl3.size;clear c0 c1 c2 c3;obtain⟨vA,vc,rfl⟩:=hown3.form;have hba:=Zac w3 (.cells #[.int .i64 a.kind,.int .i64 a.node,.int .i64 a.pick,.string a.text] 58);have hbb:=Zac (w3.alloc (.cells #[.int .i64 a.kind,.int .i64 a.node,.int .i64 a.pick,.string a.text] 58)) (.cells #[.int .i64 a.kind,.int .i64 a.node,.int .i64 a.pick,.string a.text] 58);have hy:=RAts.ofBlk [a] (Blk.new (w3.alloc (.cells #[.int .i64 a.kind,.int .i64 a.node,.int .i64 a.pick,.string a.text] 58)) 58 #[.int .i64 a.kind,.int .i64 a.node,.int .i64 a.pick,.string a.text]) rfl (by simp);rw[show(w3.alloc (.cells #[.int .i64 a.kind,.int .i64 a.node,.int .i64 a.pick,.string a.text] 58)).heap.size=w3.heap.size+1 from by simp]at hy;have hbl5:=hbl3.trans ((hba.trans (hbb.mono hba.size)).mono hz3);have hown5:=(hown3.alloc (.cells #[.int .i64 a.kind,.int .i64 a.node,.int .i64 a.pick,.string a.text] 58)).alloc (.cells #[.int .i64 a.kind,.int .i64 a.node,.int .i64 a.pick,.string a.text] 58)
   go_wp2_with (at_builtin;go_loud (refine Zdt (xs:=xs) (ys:=[a]) (W:=w) _ _ rfl rfl rfl hown5 hbl5 hbl5.size rfl hy (by simp;omega) ?_))
   intro v2 w5 ho5 hb5 hg5;have hxs5:Hid (Acts (xs++[a])):=hxs.out.append (Acts.cons ha Acts.nil);clear hown3 hown5 hy hba hbb hg5 ha;go_wp2;go_roundw
   case rel=>exact⟨k+1,xs++[a],by omega,by omega,by go_num,by simp;omega,hxs5,ho5,hb5⟩
   case measure=>simp[intOf];omega
  ·have hno:¬((k:Int)<l.length)∨(k:Int)<l.length∧¬(k:Int)<most:=by omega
   rcases hno with hno|⟨hno,hno2⟩
   all_goals
    obtain⟨vA,vc,rfl⟩:=hown.form;go_wp2;go_ret;exact⟨⟨_,xs,rfl,hbl,hown,hxs.out,by omega⟩⟩
theorem Zq3(va vb:Value)(a b:List At)(w:World)(ra:RAts w.cell? va a)(rb:RAts w.cell? vb b)(hn:a.length+b.length≤100000) :
 Calls Tryz.prog 15 #[va,vb] w fun e w'=>∃v,e=.returned v∧Below w.heap.size w w'∧OwnA w' w.heap.size v (a++b):=by
 obtain⟨A,ac,rfl,hfa⟩:=id ra;obtain⟨B,bc,rfl,hfb⟩:=id rb;clear hfa hfb
 go_enter Tryz.func15,Tryz.ntmps15
 go_wp2_with (at_builtin;go_loud (refine Zdt (xs:=[]) (ys:=a) (W:=w) _ _ rfl rfl rfl (OwnA.nil w w.heap.size) (Below.refl _ _) (Nat.le_refl _) rfl ra (by simp;omega) ?_))
 intro v2 w2 ho2 hb2 hg2;have rb2:=rb.mono RAt.mono (Zaa hb2);obtain⟨vA,vc,rfl⟩:=ho2.form;clear ra rb hg2
 go_wp2_with (at_builtin;go_loud (refine Zdt (xs:=a) (ys:=b) (W:=w) _ _ rfl rfl rfl ho2 hb2 hb2.size rfl rb2 hn ?_))
 intro v3 w3 ho3 hb3 hg3;go_wp2;go_ret;exact⟨_,rfl,hb3,ho3⟩
theorem Zsh{a:At}(h:actE a=0):a.text.size≤4000:=by
 have hf:=Zpm h
 by_cases ht:hT a.kind=true
 ·exact hf.2.2.1 ht
 ·unfold actE actF at h;split at h
  ·cases h
  ·split at h
   ·cases h
   ·split at h
    ·cases h
    ·split at h
     ·cases h
     ·rename_i h4;simp only[Bool.or_eq_true,Bool.and_eq_true,Bool.not_eq_true',bne_iff_ne,ne_eq,not_or,not_and,Bool.not_eq_false,Decidable.not_not,decide_eq_true_eq,beq_iff_eq]at h4;have h5:=h4.2 (by simpa using ht);have:a.text.size=a.text.toList.length:=by rw[ByteArray.toList_eq];exact Array.length_toList.symm
      rw[this,h5];decide
structure RanOut (w w':World) (e:Ending) (rogue:Int) (l:List At):Prop where
 out:∃cs:Array Value,e=.returned (.tuple #[.agg cs,.bool true])∧Below w.heap.size w w'∧ROc (View.from w'.cell? w.heap.size) cs.toList (Zix (run rogue l))
theorem Zzc(rogue:Int)(v:Value)(l:List At)(w:World)(hr:inB rogue (-1) 3=true)(rl:RAts w.cell? v l)(ha:Acts l)(hl:l.length≤3000)(hT:Tabs w.cell?) :
 Calls Tryz.prog 14 #[.int .i64 rogue,v] w fun e w'=>RanOut w w' e rogue l:=by
 have hE:=Zy7 hr ha hl;have hrun:=fun W (rl:RAts W.cell? v l) (hT:Tabs W.cell?)=>Zy6 rogue v l W rl (fun a h=>Nat.le_trans (Zsh (ha a h)) (by decide)) hT
 rw[hE]at hrun;simp only[if_true]at hrun;have Hrun:=Lib.hid hrun;obtain⟨O,hO⟩:∃O,Hid (Zix (run rogue l)=O):=⟨_,rfl⟩;have hO4:Hid (O.nodes.length=4):=by show _=_;rw[←hO.out];exact Zes _
 rw[hO.out]at Hrun;obtain⟨A,lc,rfl,hfl⟩:=id rl;clear hrun hE hfl ha hl
 go_enter Tryz.func14,Tryz.ntmps14
 go_upto_region 1 with fail
 refine Zo fun W hk1 hsz hbl=>?_
 have rl1:=rl.mono RAt.mono (Zaa hbl);have hT1:=hT.mono (Zaa hbl);have hz:=hbl.size
 go_wp2_with fail
 refine(Hrun.out _ rl1 hT1).mono ?_;rintro e w2 ⟨cs,rfl,hb2,vv,vs,vc,hcs,r1,r2,r3⟩;obtain rfl:cs=#[vv,vs,.int .i64 O.away,vc]:=by rw[←Array.toArray_toList (xs:=cs),hcs]
 obtain⟨A1,c1,rfl,f1⟩:=id r1;obtain⟨A2,c2,rfl,f2⟩:=id r2;obtain⟨A3,c3,rfl,f3⟩:=id r3;have hk12:=hk1.kept hb2;have hz2:=hb2.size;rw[hO4.out]at r1⊢;clear f1 f2 f3 hcs
 go_upto_region 2 with fail
 refine Zo fun W3 hk3 hsz3 hb3=>?_
 have hk13:=hk12.kept hb3;have hl3:=hk1.lt;refine Zt (fun w'=>Below W3.heap.size W3 w') (fun w'=>Blk w' w2.heap.size 28 #[.slice A1 4 c1,.slice A2 O.signs.length c2,.int .i64 O.away,.slice A3 O.codes.length c3]) [10] (.q 0 (.q 1 (.q 2 (.q 3 (.q 4 (.q 5 (.q 6 (.q 7 (.q 8 (.l 9 (.qc 10 .nil))))))))))) ?_ ?_
 ·exact⟨Zad _,hk3.kept (Zad _)⟩
 intro W4 hS4 hS;have hk14:=hk13.kept hS4;refine pl_q (by assumption) rfl rfl ?_;apply Exists.intro;refine⟨fun w' hS=>Zfj 28 _ rfl _ rfl _ _ (0,0) _ (hS) Tryz.underlying28 rfl (by kernel_rfl),?_⟩;simp only[List.getElem_toArray,List.getElem_cons_zero,List.getElem_cons_succ,Act.put,List.setIfInBounds_toArray,List.set_cons_zero,List.set_cons_succ]
 repeat((first|refine pq (h:=⟨_,fun w' hS=>by(have h0:=hS.cell 0;simp at h0;go_simp;exact rfl),?_⟩)|refine Zq ?_);simp only[sx])
 refine Zd fun K hK=>?_
 try simp only[sy]
 refine Zh 4 hk14 ?_;intro w5 hk5 hg5;have hS5:=hS.grown hg5 (by simp;omega);have hbl4:Below w.heap.size w W4:=((hbl.trans (hb2.mono hz)).trans (hb3.mono (by omega))).trans (hS4.mono (by have:=hb3.size;omega));have hbl5:=Zab hbl4 hbl4.size hg5 (by intro q e;injection e;omega);refine hK.out _ _ (hS5) fun hS=>?_
 clear hK K
 try simp only[sx]
 repeat(refine Zq ?_;simp only[sx])
 refine Zah ?_;go_wp2;refine bodyPost_ret (Zal rfl rfl (by kernel_rfl) (by kernel_rfl) hk5 rfl) rfl ?_
 have q:VLe (View.from w2.cell? W.heap.size) (View.from w5.cell? w.heap.size) :=
  (((Za0 _ (Zaa hb3)).trans (Za0 _ (Zaa hS4))).trans (Zax hg5 (by omega))).trans (Za8 (by omega))
 refine⟨⟨_,rfl,hbl5,?_⟩⟩;rw[hO.out];refine⟨_,_,_,rfl,r1.mono RVw.mono q,r2.mono RSign.mono q,r3.mono q⟩
end Fl
end Go.Proofs.YtinibgklgehdpaaGreatDoor
