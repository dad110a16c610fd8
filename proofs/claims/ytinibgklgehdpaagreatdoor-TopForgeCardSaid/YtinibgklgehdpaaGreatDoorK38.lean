/- A part of what the last text stands on. -/
import Derived.Test.YtinibgklgehdpaaGreatDoorK16
import Derived.Test.YtinibgklgehdpaaGreatDoorK36
import Derived.Test.YtinibgklgehdpaaGreatDoorK37
namespace Go.Proofs.YtinibgklgehdpaaGreatDoor
open Go.ChangeShapes Go.WideShapes Go.ChangeAt Go.RowKit Qa Qb Qc
set_option linter.all false
set_option maxHeartbeats 20000000
set_option maxRecDepth 100000
variable{w:World}{t:TypeId}{g off:Nat}{f:Fl.Ft}
theorem Chg.row{G:List Nat}{a b c:World}{r:Option Nat}(h:Chg G a b)(hg:b.grownBy c r)(hr:∀k,r=some k→a.heap.size≤k):Chg G a c:=by
 cases r with
 |none=>exact h.trans (.of_grown hg (by simp))
 |some k=>exact((h.sub (G':=k::G) (fun g hg=>.inl (List.mem_cons_of_mem _ hg))).trans (.of_grown hg (by simp))).sub (fun g hm=>by
  rcases List.mem_cons.1 hm with rfl|hm
  ·exact .inr (hr _ rfl)
  ·exact .inl hm)
theorem Zco{G:List Nat}{a b:World}{gh B:Nat}(hc:Chg G a b)(hG:∀g∈G,g=gh):VLe (View.from (View.but a.cell? (some gh)) B) (View.from (View.but b.cell? (some gh)) B):=fun ad v e=>by
 unfold View.from View.but at e⊢
 split at e
 ·cases e
 ·rename_i h1
  rw[if_neg h1]
  split at e
  ·cases e
  ·rename_i h2
   rw[if_neg h2]
   have hlt:=World.block_lt_of_cell? a ad e
   exact(World.cell?_of_block (hc.block ad.block hlt (fun hm=>h2 (by rw[hG _ hm])))).trans e
namespace Fl
def RVw(h:View)(cs:List Value)(x:Vw):Prop:=∃vc vb vv vp,cs=[.bool x.up,.int .i64 x.round,vc,vb,vv,vp]∧RCrts h vc x.certs∧RBats h vb x.bats∧RSlots h vv x.votes∧RTexts h vp x.pool
theorem RVw.mono:Mono RVw:=fun h h' cs x ⟨a,b,c,d,e,h1,h2,h3,h4⟩ hle=>⟨a,b,c,d,e,h1.mono RCrt.mono hle,h2.mono RBat.mono hle,h3.mono RSlot.mono hle,h4.mono hle⟩
theorem Zt4(g off:Nat)(n:Nd)(vtx vba vta vda:Value)(w:World)(h1:w.cell? ⟨g,off+1,none⟩=some (.bool n.up))(h3:w.cell? ⟨g,off+3,none⟩=some vtx)(h4:w.cell? ⟨g,off+4,none⟩=some vba)(h6:w.cell? ⟨g,off+6,none⟩=some vta)(h7:w.cell? ⟨g,off+7,none⟩=some vda)(rtx:RTexts w.cell? vtx n.txs)(rba:RBats w.cell? vba n.bats)(rta:RSlots w.cell? vta n.table)(rda:RCrts w.cell? vda n.dag)(hT:Tabs w.cell?) :
 Calls Tryz.prog 53 #[.pointer (some ⟨g,off,none⟩)] w fun e w'=>∃cs:Array Value,e=.returned (.agg cs)∧Below w.heap.size w w'∧RVw (View.from w'.cell? w.heap.size) cs.toList (view n):=by
 obtain⟨txA,txc,rfl,-⟩:=id rtx;obtain⟨baA,bac,rfl,-⟩:=id rba;obtain⟨taA,tac,rfl,-⟩:=id rta;obtain⟨daA,dac,rfl,-⟩:=id rda;obtain⟨UP,hUP⟩:∃b,Hid (n.up=b):=⟨_,rfl⟩;rw[hUP.out]at h1;have htxl:=Lib.hid rtx.len
 go_enter Tryz.func53,Tryz.ntmps53
 go_upto_region 1 with fail
 refine Zo fun W0 hk0 hsz0 hb0=>?_
 have hT0:=hT.mono (Zaa hb0);have q1:=Zaa hb0 _ _ h1;have q3:=Zaa hb0 _ _ h3;have q4:=Zaa hb0 _ _ h4;have q6:=Zaa hb0 _ _ h6;have q7:=Zaa hb0 _ _ h7;have rtx0:=rtx.mono (Zaa hb0);have rba0:=rba.mono RBat.mono (Zaa hb0);have rta0:=rta.mono RSlot.mono (Zaa hb0);have rda0:=rda.mono RCrt.mono (Zaa hb0);have hz0:=hb0.size;clear h1 h3 h4 h6 h7 rtx rba rta rda hT hsz0
 go_cut [3] (fun p w'=>∃gh pA pc,p=.pointer (some ⟨gh,0,none⟩)∧W0.heap.size≤gh∧Blk w' gh 43 #[.bool UP,.int .i64 0,.slice none 0 0,.slice none 0 0,.slice none 0 0,.slice pA n.txs.length pc]∧Below W0.heap.size W0 w'∧RTexts (View.from (View.but w'.cell? (some gh)) W0.heap.size) (.slice pA n.txs.length pc) n.txs)
 case first =>
  refine Zt (fun w'=>Below W0.heap.size W0 w') (fun w'=>Below W0.heap.size W0 w') [12] (.q 0 (.q 1 (.q 2 (.q 3 (.q 4 (.q 5 (.q 6 (.q 7 (.q 8 (.alt 9 (.q 10 (.l 11 (.l 12 .nil))) 11 (.l 9 (.q 10 (.l 12 .nil))))))))))))) ?_ ?_
  ·exact⟨Zad _,Zad _⟩
  intro W3 _ hS3
  repeat((first|refine pq (h:=⟨_,fun w' hS=>by(have x1:=Zaa hS _ _ q1;have x3:=Zaa hS _ _ q3;go_simp;exact rfl),?_⟩)|refine Zq ?_);simp only[sx])
  refine Zcl ?_ ?_
  ·refine Zd fun K hK=>?_
   try simp only[sy]
   go_simp;refine(Zbv _ n.txs _ (rtx0.mono (Zaa hS3))).mono ?_;rintro e w5 ⟨v5,rfl,hb5,o5⟩;have hS5:=hS3.trans (hb5.mono hS3.size);have hz3:=hS3.size;have hz5:=hS5.size;have o5len:=htxl.out;have rp5:=o5.reads_from o5len (b0:=W0.heap.size) (by omega) (g:=none) (by simp);obtain⟨A5,c5,rfl⟩:=o5.form;clear o5;refine hK.out _ _ (hS5) fun hS=>?_
   clear hK K
   try simp only[sx]
   repeat(refine Zq ?_;simp only[sx])
   refine Zd fun K hK=>?_
   try simp only[sy]
   go_simp;have hn6:=Blk.new w5 43 #[.bool false,.int .i64 0,.slice none 0 0,.slice none 0 0,.slice none 0 0,.slice none 0 0];have hb6:=Zac w5 (.cells #[.bool false,.int .i64 0,.slice none 0 0,.slice none 0 0,.slice none 0 0,.slice none 0 0] 43);refine hK.out _ _ (hS5.trans (hb6.mono hS5.size)) fun hS=>?_
   clear hK K
   try simp only[sx]
   refine Zc fun K hK=>?_
   try simp only[sy]
   refine Zh 6 hn6 ?_;intro w7 hB7 hg7;have hb57:Below w5.heap.size w5 w7:=Zab hb6 hb6.size hg7 (by intro k e;injection e;omega);refine hK.out _ _ ?_;clear hK K
   try simp only[sx]
   refine Zah ?_
   go_wp2_with fail
   go_meet;refine⟨_,A5,c5,rfl,hS5.size,hB7,hS5.trans (hb57.mono hS5.size),rp5.mono ?_⟩;intro a v e;unfold View.from View.but at e⊢;split at e
   ·cases e
   ·rename_i h1;rw[if_neg h1];split at e
    ·cases e
    ·have:=World.block_lt_of_cell? w5 a e;rw[if_neg (by intro q;injection q;omega)];exact Zaa hb57 _ _ e
  ·refine Zd fun K hK=>?_
   try simp only[sy]
   go_simp;have hn6:=Blk.new W3 43 #[.bool false,.int .i64 0,.slice none 0 0,.slice none 0 0,.slice none 0 0,.slice none 0 0];have hb6:=Zac W3 (.cells #[.bool false,.int .i64 0,.slice none 0 0,.slice none 0 0,.slice none 0 0,.slice none 0 0] 43);have hz3:=hS3.size;refine hK.out _ _ (hS3.trans (hb6.mono hS3.size)) fun hS=>?_
   clear hK K
   try simp only[sx]
   repeat(refine Zq ?_;simp only[sx])
   refine Zd fun K hK=>?_
   try simp only[sy]
   go_simp;refine(Zbv _ n.txs _ ((rtx0.mono (Zaa hS3)).mono (Zaa hb6))).mono ?_;rintro e w5 ⟨v5,rfl,hb5,o5⟩;have hb6s:=hb6.size;have hb35:=hb6.trans (hb5.mono hb6s);have hn65:=hn6.kept hb5;have hlt5:=o5.own.lt;have o5len:=htxl.out;have hzA:(W3.alloc (.cells #[.bool false,.int .i64 0,.slice none 0 0,.slice none 0 0,.slice none 0 0,.slice none 0 0] 43)).heap.size=W3.heap.size+1:=by simp
   rw[hzA]at hlt5 o5;have hz35:=hb35.size;have rp5:=o5.reads_from o5len (b0:=W0.heap.size) (by omega) (g:=some W3.heap.size) (by intro k e;injection e;omega);obtain⟨A5,c5,rfl⟩:=o5.form;clear o5;refine hK.out _ _ (hS3.trans (hb35.mono hS3.size)) fun hS=>?_
   clear hK K
   try simp only[sx]
   repeat(refine Zq ?_;simp only[sx])
   refine Zc fun K hK=>?_
   try simp only[sy]
   refine Zh 6 hn65 ?_;intro w7 hB7 hg7;have hb57:Below W0.heap.size W0 w7:=Zab (hS3.trans (hb35.mono hS3.size)) (by omega) hg7 (by intro k e;injection e;omega);refine hK.out _ _ ?_;clear hK K
   try simp only[sx]
   refine Zah ?_
   go_wp2_with fail
   go_meet;refine⟨_,A5,c5,rfl,hS3.size,hB7,hb57,rp5.mono ?_⟩;intro a v e;unfold View.from View.but at e⊢;split at e
   ·cases e
   ·rename_i h1;rw[if_neg h1];split at e
    ·cases e
    ·rename_i h2;rw[if_neg h2];exact hg7.cell e h2
 case rest =>
  obtain⟨gh,pA,pc,rfl,hgh,hB,hbl,rp⟩:=hcut;obtain⟨w1,hw1⟩:∃w1:World,w1=wc:=⟨_,rfl⟩;subst hw1;have hz1:=hbl.size;have x7:=Zaa hbl _ _ q7;have rda1:=rda0.mono RCrt.mono (Zaa hbl);obtain⟨RV,hRV⟩:∃q,Hid (rndV n.dag=q):=⟨_,rfl⟩;obtain⟨DE,hDE⟩:∃q,Hid (dagF hD cF n.dag=q):=⟨_,rfl⟩;have hrd:=Zjm _ n.dag w1 rda1 (hT0.mono (Zaa hbl));rw[hRV.out,hDE.out]at hrd
  go_wp2_with fail
  refine hrd.mono ?_;rintro e w2 ⟨rfl,hb2⟩;have hB2:=hB.kept hb2
  go_wp2_with (refine Zfh (n:=1) rfl rfl rfl rfl (by kernel_rfl) rfl hB2 (by simp) rfl ?_)
  intro w3 hB3 hg3;have hB3:Blk w3 gh 43 #[.bool UP,.int .i64 RV,.slice none 0 0,.slice none 0 0,.slice none 0 0,.slice pA n.txs.length pc]:=hB3;have c2:Chg [gh] w1 w3:=(Chg.of_below hb2 (Nat.le_refl _)).trans (.of_grown hg3 (by simp));have hb3:Below W0.heap.size W0 w3:=hbl.trans (c2.below (by simpa using hgh) hz1);have rp3:=rp.mono (Zco c2 (by simp));clear hB2 hB hrd c2 hg3 hb2 rda1 x7 rp hbl;have x7:=Zaa hb3 _ _ q7;have hz3:=hb3.size;have hgl3:=hB3.lt;obtain⟨_,hda1,hda2,hel⟩:=RCrts.at rda0;have Hel:=Lib.hid hel;clear hel;obtain⟨l,hl⟩:∃l,Hid (n.dag=l):=⟨_,rfl⟩;simp only[hl.out]at Hel hda1 hda2 x7;rw[hl.out];obtain⟨w3h,hw3h⟩:∃z,Hid (w3.heap.size=z):=⟨_,rfl⟩
  go_wp2_with fail
  go_loopw [5,6,37] (fun _ _ i wr=>∃k:Nat,k≤l.length∧i=.int .i64 k∧∃v',Blk wr gh 43 #[.bool UP,.int .i64 RV,v',.slice none 0 0,.slice none 0 0,.slice pA n.txs.length pc]∧OwnSl 5 (RFrom w3.heap.size RCrt) 64 wr w3.heap.size v' (l.take k)∧Chg [gh] w3 wr) (fun _ _ i _=>l.length-(intOf i).toNat)
  case atStart=>exact⟨0,Nat.zero_le _,rfl,_,hB3,OwnSl.nil _ _ _ _ _,Chg.refl _ _⟩
  case round =>
   obtain⟨k,hk,rfl,v',hB,hown,hcg⟩:=hrel;have hbs:=hcg.size
   by_cases hlt:k<l.length
   ·obtain⟨b0,o0,ub,up,uv,rfl,q0,q1,q2,q3,q4,rb,rp,rv⟩:=Hel.out k hlt;have hbW:Below W0.heap.size W0 wr:=hb3.trans (hcg.below (by simpa using hgh) hz3);have c0:=Zaa hbW _ _ q0;have c1:=Zaa hbW _ _ q1;have c2:=Zaa hbW _ _ q2;have c3:=Zaa hbW _ _ q3;have c4:=Zaa hbW _ _ q4;have rb':=rb.mono RDig.mono (Zaa hbW);have rp':=rp.mono RDig.mono (Zaa hbW);have rv':=rv.mono (Zaa hbW);have Hn:=Lib.hid (List.take_succ_eq_append_getElem hlt);have Hlk:=Lib.hid (show(l.take k).length=k by simp;omega);obtain⟨E1A,E1c,rfl,-⟩:=id rb;obtain⟨E2A,E2c,rfl,-⟩:=id rp;obtain⟨E3A,E3c,rfl,-⟩:=id rv;clear q0 q1 q2 q3 q4 rb rp;generalize l.take k=L at hown Hn Hlk;generalize l[k]=y at *;have hltI:(k:Int)<l.length:=by omega
    have hlto:=hown.lt
    go_upto_region 6 with fail
    refine Zo fun W2 hX hsX hbX=>?_
    have d0:=hX.cell 0;have d1:=hX.cell 1;have d2:=hX.cell 2;have d3:=hX.cell 3;simp at d0 d1 d2 d3
    go_upto_region 7 with fail
    refine Zo fun W3 hY hsY hbY=>?_
    have hbX3:Below wr.heap.size wr W3:=hbX.trans (hbY.mono (by omega));have hX3:=hX.kept hbY;rw[hsX]at hY;have rb3:=rb'.mono RDig.mono (Zaa hbX3);have rp3':=rp'.mono RDig.mono (Zaa hbX3);have rv3:=rv'.mono (Zaa hbX3);have hown3:=hown.kept (RFrom.mono RCrt.mono) hbX3;have hB3':=hB.kept hbX3;have hownB:=((hown.kept (RFrom.mono RCrt.mono) hbX).toBut (RFrom.mono RCrt.mono)).kept (RBut.mono (RFrom.mono RCrt.mono)) hbY;rw[hsX]at hownB;have hcg3:Chg [gh] w3 W3:=hcg.trans (Chg.of_below hbX3 (Nat.le_refl _));obtain⟨nA,nc,rfl⟩:=hown3.form;clear c0 c1 c2 c3 c4 d0 d1 d2 d3 rb' rp' rv' hX hB hown hcg hbW;refine Zt (fun w'=>Below W3.heap.size W3 w') (fun w'=>Blk w' (wr.heap.size+1) 51 #[.int .i64 y.hdr.author,.int .i64 y.hdr.round,.slice E1A y.hdr.batches.length E1c,.slice E2A y.hdr.parents.length E2c]) [6,7,8,9] (.q 0 (.q 1 (.q 3 (.q 4 (.l 2 (.qc 6 (.l 5 (.l 7 (.qc 8 (.l 9 .nil)))))))))) ?_ ?_
    ·exact⟨Zad _,hY.kept (Zad _)⟩
    intro W4 hS4 hS0
    repeat((first|refine pq (h:=⟨_,fun w' hS=>by(have y2:=hS.cell 2;have y3:=hS.cell 3;simp at y2 y3;go_simp;exact rfl),?_⟩)|refine Zq ?_);simp only[sx])
    refine Zd fun K hK=>?_
    try simp only[sy]
    go_simp;refine(Zll _ y.hdr.batches _ (rb3.mono RDig.mono (Zaa hS4))).mono ?_;rintro e w5 ⟨tb,rfl,hb5,s1⟩;have hS5:=hS4.trans (hb5.mono hS4.size);have hY5:=hY.kept hS5;refine hK.out _ _ (hY5) fun hS=>?_
    clear hK K
    try simp only[sx]
    repeat(refine Zq ?_;simp only[sx])
    refine Zd fun K hK=>?_
    try simp only[sy]
    go_simp;refine(Zll _ y.hdr.parents _ (rp3'.mono RDig.mono (Zaa hS5))).mono ?_;rintro e w6 ⟨tp,rfl,hb6,s2⟩;have hS6:=hS5.trans (hb6.mono hS5.size);have hY6:=hY.kept hS6;obtain⟨A1,c1',rfl,-⟩:=id s1;obtain⟨A2,c2',rfl,-⟩:=id s2;refine hK.out _ _ (hY6) fun hS=>?_
    clear hK K
    try simp only[sx]
    repeat(refine Zq ?_;simp only[sx])
    refine Zc fun K hK=>?_
    try simp only[sy]
    refine Zav (n:=1) rfl rfl rfl (by kernel_rfl) rfl hY6 (by simp) rfl ?_;intro w7 hY7 hg7;have hY7:Blk w7 (wr.heap.size+1) 51 #[.int .i64 y.hdr.author,.int .i64 y.hdr.round,.slice A1 y.hdr.batches.length c1',.slice E2A y.hdr.parents.length E2c]:=hY7;refine hK.out _ _ ?_;clear hK K
    try simp only[sx]
    repeat(refine Zq ?_;simp only[sx])
    refine Zc fun K hK=>?_
    try simp only[sy]
    refine Zav (n:=1) rfl rfl rfl (by kernel_rfl) rfl hY7 (by simp) rfl ?_;intro w8 hY8 hg8;have hY8:Blk w8 (wr.heap.size+1) 51 #[.int .i64 y.hdr.author,.int .i64 y.hdr.round,.slice A1 y.hdr.batches.length c1',.slice A2 y.hdr.parents.length c2']:=hY8;refine hK.out _ _ ?_;clear hK K
    try simp only[sx]
    repeat(refine Zq ?_;simp only[sx])
    refine Zah ?_;have hszr:=hcg3.size;have hneA:∀k,(Value.slice nA L.length nc).ownBlock=some k→k≠wr.heap.size+1:=fun k hk=>by have:=(hlto k hk).2;omega
    have hneA':(Value.slice nA L.length nc).ownBlock≠some (wr.heap.size+1):=fun e=>hneA _ e rfl
    have hgh8:gh≠wr.heap.size+1:=by omega
    have c68:Chg [wr.heap.size+1] w6 w8:=(Chg.of_grown hg7 (by simp)).trans (.of_grown hg8 (by simp));have hown8:=OwnSl.ofBut (RFrom.mono RCrt.mono) (((hownB.kept (RBut.mono (RFrom.mono RCrt.mono)) hS6).butGrown (RFrom.mono RCrt.mono) hg7 hneA').butGrown (RFrom.mono RCrt.mono) hg8 hneA');have hz4:=hS4.size;have hz5:=hS5.size;have hz6:=hS6.size;have hz8:=c68.size;have hB8:=(hB3'.kept hS6).chg c68 (by simpa using hgh8);have hX8:=(hX3.kept hS6).chg c68 (by simp);have t1:=s1.mono RDig.mono ((Za0 W4.heap.size (Zaa hb6)).trans (Zil c68 (by simp;omega)));have t2:=s2.mono RDig.mono (Zil c68 (by simp;omega));have hcg8:Chg [gh] w3 w8:=((hcg3.trans (Chg.of_below hS6 (Nat.le_refl _))).row hg7 (fun q e=>by injection e;omega)).row hg8 (fun q e=>by injection e;omega);have rv8:=rv.mono (Zaa (hb3.trans (hcg8.below (by simpa using hgh) hz3)));clear hown3 hownB hB3' hX3 hY hY5 hY6 hY7 rb3 rp3' s1 s2 hg7 hg8 hb5 hb6 hbX hbY hbX3
    go_upto_region 8 with fail
    refine Zt (fun w'=>Below w8.heap.size w8 w') (fun w'=>Blk w' gh 43 #[.bool UP,.int .i64 RV,.slice nA L.length nc,.slice none 0 0,.slice none 0 0,.slice pA n.txs.length pc]∧Blk w' (wr.heap.size+1) 51 #[.int .i64 y.hdr.author,.int .i64 y.hdr.round,.slice A1 y.hdr.batches.length c1',.slice A2 y.hdr.parents.length c2']∧Blk w' wr.heap.size 64 #[.int .i64 y.hdr.author,.int .i64 y.hdr.round,.slice E1A y.hdr.batches.length E1c,.slice E2A y.hdr.parents.length E2c,.slice E3A y.voters.length E3c]) [9,10] (.q 0 (.q 1 (.q 2 (.q 3 (.q 4 (.l 5 (.q 6 (.l 7 (.l 8 (.qc 9 (.l 10 .nil))))))))))) ?_ ?_
    ·exact⟨Zad _,hB8.kept (Zad _),hY8.kept (Zad _),hX8.kept (Zad _)⟩
    intro W9 hS9 hS0
    repeat((first|refine pq (h:=⟨_,fun w' hS=>by(have h2:=hS.1.cell 2;have y0:=hS.2.1.cell 0;have y1:=hS.2.1.cell 1;have y2:=hS.2.1.cell 2;have y3:=hS.2.1.cell 3;have x4:=hS.2.2.cell 4;simp at h2 y0 y1 y2 y3 x4;go_simp;exact rfl),?_⟩)|refine Zq ?_);simp only[sx])
    refine Zd fun K hK=>?_
    try simp only[sy]
    go_simp;refine(Zgy _ y.voters _ (rv8.mono (Zaa hS9))).mono ?_;rintro e w10 ⟨tv,rfl,hb10,o10⟩;have hS10:=hS9.trans (hb10.mono hS9.size);have hz9:=hS9.size;have hz10:=hS10.size;have hown10:=hown8.kept (RFrom.mono RCrt.mono) hS10;have hB10:=hB8.kept hS10;have hY10:=hY8.kept hS10;have hX10:=hX8.kept hS10
    have rR:∀d,tv=d→RFrom w3.heap.size RCrt (View.but w10.cell? (Value.slice nA L.length nc).ownBlock) [.int .i64 y.hdr.author,.int .i64 y.hdr.round,.slice A1 y.hdr.batches.length c1',.slice A2 y.hdr.parents.length c2',d] y:=by
     rintro d rfl;refine⟨_,_,_,rfl,?_,?_,?_⟩
     ·exact t1.mono RDig.mono ((Za0 W4.heap.size (Zaa hS10)).trans (Zbb (by omega) (fun g hg=>by have:=(hlto g hg).2;omega)))
     ·exact t2.mono RDig.mono ((Za0 w5.heap.size (Zaa hS10)).trans (Zbb (by omega) (fun g hg=>by have:=(hlto g hg).2;omega)))
     ·exact o10.reads_from rv8.len (by omega) (fun g hg=>by have:=(hlto g hg).2;omega)
    obtain⟨A3,c3',rfl⟩:=o10.form;have rR:=rR _ rfl;clear o10;refine hK.out _ _ (⟨hB10,hY10,hX10⟩) fun hS=>?_
    clear hK K
    try simp only[sx]
    repeat(refine Zq ?_;simp only[sx])
    refine Zd fun K hK=>?_
    try simp only[sy]
    go_simp;have hb11:=Zac w10 (.cells #[.int .i64 y.hdr.author,.int .i64 y.hdr.round,.slice A1 y.hdr.batches.length c1',.slice A2 y.hdr.parents.length c2',.slice A3 y.voters.length c3'] 64);refine hK.out _ _ (⟨hB10.kept hb11,hY10.kept hb11,hX10.kept hb11⟩) fun hS=>?_
    clear hK K
    try simp only[sx]
    repeat(refine Zq ?_;simp only[sx])
    refine Zd fun K hK=>?_
    try simp only[sy]
    refine Zbg (n:=140737488355328) (RFrom.mono RCrt.mono) y [.int .i64 y.hdr.author,.int .i64 y.hdr.round,.slice A1 y.hdr.batches.length c1',.slice A2 y.hdr.parents.length c2',.slice A3 y.voters.length c3'] Zk7 _ _ rfl rfl hown10 (W:=w10) (Below.refl _ _) (by omega) rfl rfl rfl rfl rR (Nat.le_refl _) (by rw[Hlk.out];omega) (by rw[Hlk.out];omega) (fun v2 w12 ho12 hb12 hg12=>?_);have hB12:=hB10.grown hg12 (hown10.low_ne (by omega));have hY12:=hY10.grown hg12 (fun e=>hneA' e.symm);have hX12:=hX10.grown hg12 (fun e=>by have:=(hlto _ e.symm).2;omega);have hLl:(L++[y]).length=k+1:=by rw[List.length_append,Hlk.out];rfl
    obtain⟨mA,mc,hv2⟩:=ho12.form;rw[hLl]at hv2;subst hv2;rw[←Hn.out]at ho12;refine hK.out _ _ (⟨hB12,hY12,hX12⟩) fun hS=>?_
    clear hK K
    try simp only[sx]
    repeat(refine Zq ?_;simp only[sx])
    refine Zc fun K hK=>?_
    try simp only[sy]
    refine Zav (n:=1) rfl rfl rfl (by kernel_rfl) rfl hB12 (by simp) rfl ?_;intro w13 hB13 hg13;have hB13:Blk w13 gh 43 #[.bool UP,.int .i64 RV,.slice mA (k+1) mc,.slice none 0 0,.slice none 0 0,.slice pA n.txs.length pc]:=hB13;have ho13:=ho12.low RCrt.mono hg13 (by omega);have hcg13:Chg [gh] w3 w13:=((hcg8.trans (Chg.of_below hS10 (Nat.le_refl _))).row hg12 (fun q hq=>(hlto q hq).1)).trans (.of_grown hg13 (by simp));refine hK.out _ _ ?_;clear hK K
    try simp only[sx]
    repeat(refine Zq ?_;simp only[sx])
    refine Zah ?_;clear hB8 hB10 hB12 hX8 hX10 hX12 hY8 hY10 hY12 hown8 hown10 ho12 rR hb11 hS9 hS10 hg12 hg13 hcg8 hcg3 t1 t2 rv rv8;go_wp2;go_roundw
    case rel=>exact⟨k+1,by omega,by go_num,_,hB13,ho13,hcg13⟩
    case measure=>simp[intOf];omega
   ·have hkl:k=l.length:=by omega
    rw[hkl,List.take_length]at hown;obtain⟨nA,nc,rfl⟩:=hown.form;have hltI:¬(k:Int)<l.length:=by omega
    clear Hel hkl;have hbW:Below W0.heap.size W0 wr:=hb3.trans (hcg.below (by simpa using hgh) hz3);have rc:=(hown.reads_from (bs:=88) RCrt.mono (by omega)).mono RCrt.mono (Zbb (b':=W0.heap.size) (g:=some gh) (by omega) (fun q e=>by injection e;omega));have rp4:=rp3.mono (Zco hcg (by simp));clear hown hcg hB3 hb3 rp3 x7 hda1 hda2;obtain⟨wa,hwa⟩:∃wa:World,wa=wr:=⟨_,rfl⟩;subst hwa;have hza:=hbW.size;have hgla:=hB.lt;have x4:=Zaa hbW _ _ q4;obtain⟨_,hba1,hba2,hel⟩:=RBats.at rba0;have Hel:=Lib.hid hel;clear hel;obtain⟨lb,hlb⟩:∃l,Hid (n.bats=l):=⟨_,rfl⟩;simp only[hlb.out]at Hel hba1 hba2 x4
    go_wp2_with fail
    go_loopw [8,67] (fun _ i wr=>∃k:Nat,k≤lb.length∧i=.int .i64 k∧∃v',Blk wr gh 43 #[.bool UP,.int .i64 RV,.slice nA l.length nc,v',.slice none 0 0,.slice pA n.txs.length pc]∧OwnSl 3 (RFrom wa.heap.size RBat) 53 wr wa.heap.size v' (lb.take k)∧Chg [gh] wa wr) (fun _ i _=>lb.length-(intOf i).toNat)
    case atStart=>exact⟨0,Nat.zero_le _,rfl,_,hB,OwnSl.nil _ _ _ _ _,Chg.refl _ _⟩
    case round =>
     clear hB;obtain⟨k,hk,rfl,v',hB,hown,hcg⟩:=hrel;have hbs:=hcg.size
     by_cases hlt:k<lb.length
     ·obtain⟨b0,o0,ux,rfl,q0,q1,q2,rx,hsm⟩:=Hel.out k hlt;have hbr:Below W0.heap.size W0 wr:=hbW.trans (hcg.below (by simpa using hgh) hza);have c0:=Zaa hbr _ _ q0;have c1:=Zaa hbr _ _ q1;have c2:=Zaa hbr _ _ q2;have rx':=rx.mono (Zaa hbr);have Hn:=Lib.hid (List.take_succ_eq_append_getElem hlt);have Hlk:=Lib.hid (show(lb.take k).length=k by simp;omega);obtain⟨E1A,E1c,rfl,-⟩:=id rx;clear q0 q1 q2 rx;generalize lb.take k=L at hown Hn Hlk;generalize lb[k]=y at *;have hltI:(k:Int)<lb.length:=by omega
      have hlto:=hown.lt
      go_upto_region 13 with fail
      refine Zo fun W2 hX hsX hbX=>?_
      have hown2:=hown.kept (RFrom.mono RBat.mono) hbX;have hB2:=hB.kept hbX;have hcg2:Chg [gh] wa W2:=hcg.trans (Chg.of_below hbX (Nat.le_refl _));have rx2:=rx'.mono (Zaa hbX);have rxl:=Lib.hid rx2.len;have hzX:=hbX.size;obtain⟨mA0,mc0,rfl⟩:=hown2.form;clear c0 c1 c2 rx' hsX hB hown hcg hbr;refine Zt (fun w'=>Below W2.heap.size W2 w') (fun w'=>Blk w' gh 43 #[.bool UP,.int .i64 RV,.slice nA l.length nc,.slice mA0 L.length mc0,.slice none 0 0,.slice pA n.txs.length pc]∧Blk w' wr.heap.size 53 #[.int .i64 y.author,.int .i64 y.number,.slice E1A y.txs.length E1c]) [12,13] (.q 0 (.q 1 (.q 2 (.q 3 (.q 4 (.q 5 (.q 6 (.q 7 (.l 8 (.q 9 (.l 10 (.l 11 (.qc 12 (.l 13 .nil)))))))))))))) ?_ ?_
      ·exact⟨Zad _,hB2.kept (Zad _),hX.kept (Zad _)⟩
      intro W3 hS3 hS0
      repeat((first|refine pq (h:=⟨_,fun w' hS=>by(have h3:=hS.1.cell 3;have x0:=hS.2.cell 0;have x1:=hS.2.cell 1;have x2:=hS.2.cell 2;simp at h3 x0 x1 x2;go_simp;exact rfl),?_⟩)|refine Zq ?_);simp only[sx])
      refine Zd fun K hK=>?_
      try simp only[sy]
      go_simp;refine(Zbv _ y.txs _ (rx2.mono (Zaa hS3))).mono ?_;rintro e w4 ⟨td,rfl,hb4,o4⟩;have hS4:=hS3.trans (hb4.mono hS3.size);have hz3':=hS3.size;have hz4:=hS4.size;have hown4:=hown2.kept (RFrom.mono RBat.mono) hS4;have hB4:=hB2.kept hS4;have hX4:=hX.kept hS4
      have rR:∀d,td=d→RFrom wa.heap.size RBat (View.but w4.cell? (Value.slice mA0 L.length mc0).ownBlock) [.int .i64 y.author,.int .i64 y.number,d] y:=by
       rintro d rfl;exact⟨_,rfl,o4.reads_from rxl.out (by omega) (fun g hg=>by have:=(hlto g hg).2;omega),hsm⟩
      obtain⟨A1,c1',rfl⟩:=o4.form;have rR:=rR _ rfl;clear o4;refine hK.out _ _ (⟨hB4,hX4⟩) fun hS=>?_
      clear hK K
      try simp only[sx]
      repeat(refine Zq ?_;simp only[sx])
      refine Zd fun K hK=>?_
      try simp only[sy]
      go_simp;have hb5:=Zac w4 (.cells #[.int .i64 y.author,.int .i64 y.number,.slice A1 y.txs.length c1'] 53);refine hK.out _ _ (⟨hB4.kept hb5,hX4.kept hb5⟩) fun hS=>?_
      clear hK K
      try simp only[sx]
      repeat(refine Zq ?_;simp only[sx])
      refine Zd fun K hK=>?_
      try simp only[sy]
      refine Zbg (n:=140737488355328) (RFrom.mono RBat.mono) y [.int .i64 y.author,.int .i64 y.number,.slice A1 y.txs.length c1'] Zqs _ _ rfl rfl hown4 (W:=w4) (Below.refl _ _) (by omega) rfl rfl rfl rfl rR (Nat.le_refl _) (by rw[Hlk.out];omega) (by rw[Hlk.out];omega) (fun v2 w6 ho6 hb6 hg6=>?_);have hB6:=hB4.grown hg6 (hown4.low_ne (by omega));have hX6:=hX4.grown hg6 (fun e=>by have:=(hlto _ e.symm).2;omega);have hLl:(L++[y]).length=k+1:=by rw[List.length_append,Hlk.out];rfl
      obtain⟨mA,mc,hv2⟩:=ho6.form;rw[hLl]at hv2;subst hv2;rw[←Hn.out]at ho6;refine hK.out _ _ (⟨hB6,hX6⟩) fun hS=>?_
      clear hK K
      try simp only[sx]
      repeat(refine Zq ?_;simp only[sx])
      refine Zc fun K hK=>?_
      try simp only[sy]
      refine Zav (n:=1) rfl rfl rfl (by kernel_rfl) rfl hB6 (by simp) rfl ?_;intro w7 hB7 hg7;have hB7:Blk w7 gh 43 #[.bool UP,.int .i64 RV,.slice nA l.length nc,.slice mA (k+1) mc,.slice none 0 0,.slice pA n.txs.length pc]:=hB7;have ho7:=ho6.low RBat.mono hg7 (by omega);have hcg7:Chg [gh] wa w7:=((hcg2.trans (Chg.of_below hS4 (Nat.le_refl _))).row hg6 (fun q hq=>(hlto q hq).1)).trans (.of_grown hg7 (by simp));refine hK.out _ _ ?_;clear hK K
      try simp only[sx]
      repeat(refine Zq ?_;simp only[sx])
      refine Zah ?_;clear hB2 hB4 hB6 hX hX4 hX6 hown2 hown4 ho6 rR hb5 hS3 hS4 hg6 hg7 hcg2 rx2;go_wp2;go_roundw
      case rel=>exact⟨k+1,by omega,by go_num,_,hB7,ho7,hcg7⟩
      case measure=>simp[intOf];omega
     ·have hkl:k=lb.length:=by omega
      rw[hkl,List.take_length]at hown;obtain⟨mA,mc,rfl⟩:=hown.form;have hltI:¬(k:Int)<lb.length:=by omega
      clear Hel hkl;have hbr:Below W0.heap.size W0 wr:=hbW.trans (hcg.below (by simpa using hgh) hza);have rb:=(hown.reads_from (bs:=40) RBat.mono (by omega)).mono RBat.mono (Zbb (b':=W0.heap.size) (g:=some gh) (by omega) (fun q e=>by injection e;omega));have rp5:=rp4.mono (Zco hcg (by simp));have rc5:=rc.mono RCrt.mono (Zco hcg (by simp));clear hown hcg rp4 rc x4 hba1 hba2 hbW hza hgla;obtain⟨wb,hwb⟩:∃wb:World,wb=wr:=⟨_,rfl⟩;subst hwb;have hza:=hbr.size;have hgla:=hB.lt;have x6:=Zaa hbr _ _ q6;obtain⟨_,hta1,hta2,hel⟩:=RSlots.at rta0;have Hel:=Lib.hid hel;clear hel;obtain⟨lt,hltt⟩:∃l,Hid (n.table=l):=⟨_,rfl⟩;simp only[hltt.out]at Hel hta1 hta2 x6
      go_wp2_with fail
      go_loopw [10,90] (fun _ i wr=>∃k:Nat,k≤lt.length∧i=.int .i64 k∧∃v',Blk wr gh 43 #[.bool UP,.int .i64 RV,.slice nA l.length nc,.slice mA lb.length mc,v',.slice pA n.txs.length pc]∧OwnSl 3 (RFrom wb.heap.size RSlot) 61 wr wb.heap.size v' (lt.take k)∧Chg [gh] wb wr) (fun _ i _=>lt.length-(intOf i).toNat)
      case atStart=>exact⟨0,Nat.zero_le _,rfl,_,hB,OwnSl.nil _ _ _ _ _,Chg.refl _ _⟩
      case round =>
       clear hB;obtain⟨k,hk,rfl,v',hB,hown,hcg⟩:=hrel;have hbs:=hcg.size
       by_cases hlt:k<lt.length
       ·obtain⟨b0,o0,ux,rfl,q0,q1,q2,rx⟩:=Hel.out k hlt;have hbs':Below W0.heap.size W0 wr:=hbr.trans (hcg.below (by simpa using hgh) hza);have c0:=Zaa hbs' _ _ q0;have c1:=Zaa hbs' _ _ q1;have c2:=Zaa hbs' _ _ q2;have rx':=rx.mono (Zaa hbs');have Hn:=Lib.hid (List.take_succ_eq_append_getElem hlt);have Hlk:=Lib.hid (show(lt.take k).length=k by simp;omega);obtain⟨E1A,E1c,rfl,-⟩:=id rx;clear q0 q1 q2 rx;generalize lt.take k=L at hown Hn Hlk;generalize lt[k]=y at *;have hltI:(k:Int)<lt.length:=by omega
        have hlto:=hown.lt
        go_upto_region 18 with fail
        refine Zo fun W2 hX hsX hbX=>?_
        have hown2:=hown.kept (RFrom.mono RSlot.mono) hbX;have hB2:=hB.kept hbX;have hcg2:Chg [gh] wb W2:=hcg.trans (Chg.of_below hbX (Nat.le_refl _));have rx2:=rx'.mono (Zaa hbX);have rxl:=Lib.hid rx2.len;have hzX:=hbX.size;obtain⟨kA0,kc0,rfl⟩:=hown2.form;clear c0 c1 c2 rx' hsX hB hown hcg hbs';refine Zt (fun w'=>Below W2.heap.size W2 w') (fun w'=>Blk w' gh 43 #[.bool UP,.int .i64 RV,.slice nA l.length nc,.slice mA lb.length mc,.slice kA0 L.length kc0,.slice pA n.txs.length pc]∧Blk w' wr.heap.size 61 #[.int .i64 y.author,.int .i64 y.round,.slice E1A y.digest.length E1c]) [12,13] (.q 0 (.q 1 (.q 2 (.q 3 (.q 4 (.q 5 (.q 6 (.q 7 (.l 8 (.q 9 (.l 10 (.l 11 (.qc 12 (.l 13 .nil)))))))))))))) ?_ ?_
        ·exact⟨Zad _,hB2.kept (Zad _),hX.kept (Zad _)⟩
        intro W3 hS3 hS0
        repeat((first|refine pq (h:=⟨_,fun w' hS=>by(have h4:=hS.1.cell 4;have x0:=hS.2.cell 0;have x1:=hS.2.cell 1;have x2:=hS.2.cell 2;simp at h4 x0 x1 x2;go_simp;exact rfl),?_⟩)|refine Zq ?_);simp only[sx])
        refine Zd fun K hK=>?_
        try simp only[sy]
        go_simp;refine(Zci _ y.digest _ (rx2.mono (Zaa hS3))).mono ?_;rintro e w4 ⟨td,rfl,hb4,o4⟩;have hS4:=hS3.trans (hb4.mono hS3.size);have hz3':=hS3.size;have hz4:=hS4.size;have hown4:=hown2.kept (RFrom.mono RSlot.mono) hS4;have hB4:=hB2.kept hS4;have hX4:=hX.kept hS4
        have rR:∀d,td=d→RFrom wb.heap.size RSlot (View.but w4.cell? (Value.slice kA0 L.length kc0).ownBlock) [.int .i64 y.author,.int .i64 y.round,d] y:=by
         rintro d rfl;exact⟨_,rfl,o4.reads_from rxl.out (by omega) (fun g hg=>by have:=(hlto g hg).2;omega)⟩
        obtain⟨A1,c1',rfl⟩:=o4.form;have rR:=rR _ rfl;clear o4;refine hK.out _ _ (⟨hB4,hX4⟩) fun hS=>?_
        clear hK K
        try simp only[sx]
        repeat(refine Zq ?_;simp only[sx])
        refine Zd fun K hK=>?_
        try simp only[sy]
        go_simp;have hb5:=Zac w4 (.cells #[.int .i64 y.author,.int .i64 y.round,.slice A1 y.digest.length c1'] 61);refine hK.out _ _ (⟨hB4.kept hb5,hX4.kept hb5⟩) fun hS=>?_
        clear hK K
        try simp only[sx]
        repeat(refine Zq ?_;simp only[sx])
        refine Zd fun K hK=>?_
        try simp only[sy]
        refine Zbg (n:=140737488355328) (RFrom.mono RSlot.mono) y [.int .i64 y.author,.int .i64 y.round,.slice A1 y.digest.length c1'] Zj4 _ _ rfl rfl hown4 (W:=w4) (Below.refl _ _) (by omega) rfl rfl rfl rfl rR (Nat.le_refl _) (by rw[Hlk.out];omega) (by rw[Hlk.out];omega) (fun v2 w6 ho6 hb6 hg6=>?_);have hB6:=hB4.grown hg6 (hown4.low_ne (by omega));have hX6:=hX4.grown hg6 (fun e=>by have:=(hlto _ e.symm).2;omega);have hLl:(L++[y]).length=k+1:=by rw[List.length_append,Hlk.out];rfl
        obtain⟨kA,kc,hv2⟩:=ho6.form;rw[hLl]at hv2;subst hv2;rw[←Hn.out]at ho6;refine hK.out _ _ (⟨hB6,hX6⟩) fun hS=>?_
        clear hK K
        try simp only[sx]
        repeat(refine Zq ?_;simp only[sx])
        refine Zc fun K hK=>?_
        try simp only[sy]
        refine Zav (n:=1) rfl rfl rfl (by kernel_rfl) rfl hB6 (by simp) rfl ?_;intro w7 hB7 hg7;have hB7:Blk w7 gh 43 #[.bool UP,.int .i64 RV,.slice nA l.length nc,.slice mA lb.length mc,.slice kA (k+1) kc,.slice pA n.txs.length pc]:=hB7;have ho7:=ho6.low RSlot.mono hg7 (by omega);have hcg7:Chg [gh] wb w7:=((hcg2.trans (Chg.of_below hS4 (Nat.le_refl _))).row hg6 (fun q hq=>(hlto q hq).1)).trans (.of_grown hg7 (by simp));refine hK.out _ _ ?_;clear hK K
        try simp only[sx]
        repeat(refine Zq ?_;simp only[sx])
        refine Zah ?_;clear hB2 hB4 hB6 hX hX4 hX6 hown2 hown4 ho6 rR hb5 hS3 hS4 hg6 hg7 hcg2 rx2;go_wp2;go_roundw
        case rel=>exact⟨k+1,by omega,by go_num,_,hB7,ho7,hcg7⟩
        case measure=>simp[intOf];omega
       ·have hkl:k=lt.length:=by omega
        rw[hkl,List.take_length]at hown;obtain⟨kA,kc,rfl⟩:=hown.form;have hltI:¬(k:Int)<lt.length:=by omega
        clear Hel hkl;have hbs':Below W0.heap.size W0 wr:=hbr.trans (hcg.below (by simpa using hgh) hza);have rs:=(hown.reads_from (bs:=40) RSlot.mono (by omega)).mono RSlot.mono (Zbb (b':=W0.heap.size) (g:=some gh) (by omega) (fun q e=>by injection e;omega));have rp6:=rp5.mono (Zco hcg (by simp));have rb6:=rb.mono RBat.mono (Zco hcg (by simp));have rc6:=rc5.mono RCrt.mono (Zco hcg (by simp));have hfr:Below W0.heap.size W0 wr:=hbr.trans (hcg.below (by simpa using hgh) hza);have hkr:=hk0.below hfr hk0.lt;clear hown hcg rp5 rc5 rb hta1 hta2 x6
        go_wp2_with (first|(refine wpList_load_row rfl 43 _ rfl _ rfl _ _ _ _ hB Tryz.underlying43 rfl (by kernel_rfl) ?_)|(refine Zj 6 hkr ?_))
        intro wz hkz hgz;go_wp2;refine bodyPost_ret (Zay rfl rfl (by kernel_rfl) (by kernel_rfl) hkz rfl) rfl ?_;have hk0l:=hk0.lt
        have hvw:VLe (View.from (View.but wr.cell? (some gh)) W0.heap.size) (View.from wz.cell? w.heap.size):=fun a v e=>by
         unfold View.from at e⊢;split at e
         ·cases e
         ·rename_i h1;rw[if_neg (by omega)];exact hgz.cell (View.but_le _ _ _ _ e) (by intro q;injection q;omega)
        refine⟨_,rfl,Zab (hb0.trans (hfr.mono hz0)) (by omega) hgz (by intro k e;injection e;omega),.slice nA l.length nc,.slice mA lb.length mc,.slice kA lt.length kc,.slice pA n.txs.length pc,(by show _=[Value.bool n.up,Value.int .i64 (rndV n.dag),_,_,_,_];rw[hUP.out,hRV.out]),?_,?_,?_,rp6.mono hvw⟩
        ·show RCrts _ _ n.dag;rw[hl.out];exact rc6.mono RCrt.mono hvw
        ·show RBats _ _ n.bats;rw[hlb.out];exact rb6.mono RBat.mono hvw
        ·show RSlots _ _ n.table;rw[hltt.out];exact rs.mono RSlot.mono hvw
theorem Zym(l:List Sign)(s:Sign):(addL l s).length≤l.length+1:=by
 unfold addL;split
 ·simp
 ·split
  ·omega
  ·simp
theorem Zpy(me:Int)(p:List Sign×List Msg)(m:Msg):(Zc6 me p m).1.length≤p.1.length+1:=by
 unfold Zc6;simp only;split
 ·exact Zym _ _
 ·omega
theorem Zmg(me:Int):∀(l:List Msg) (p:List Sign×List Msg),(l.foldl (Zc6 me) p).1.length≤p.1.length+l.length
 |[],p=>by simp
 |m::l,p=>by
  have h1:=Zpy me p m
  have h2:=Zmg me l (Zc6 me p m)
  simp only[List.foldl_cons,List.length_cons]
  omega
theorem Zub(f:Ft)(i:Int):(sync f i).signs.length≤f.signs.length+(Zan f i).out.length:=by
 unfold sync;simp only;exact Zmg _ _ _
theorem Zvo(h:MI f){a:At}(ha:AOk a):(doA f a).signs.length≤f.signs.length+400:=by
 have hout:(Zan f a.node).out.length≤400:=(h.mn a.node ha.1.1 ha.1.2).out;unfold Fl.doA;split
 ·unfold submit;simp only;split<;>(simp[Za1])
 ·split
  ·split
   ·omega
   ·split
    ·rw[(Zdx _ _ _).2.1];simp
    ·simp
  ·split
   ·split
    ·omega
    ·split<;>simp
   ·split
    ·rw[(Zgu _ _).2.1];simp
    ·split
     ·split
      ·rw[(Zdx _ _ _).2.1];omega
      ·omega
     ·split
      ·by_cases k3:a.kind=3
       ·have hs:=Zub f a.node;unfold Fl.act;simp only;split
        ·simp[Za1]
        ·split
         ·omega
         ·split
          ·simp[Za1]
          ·omega
       ·rw[show(act f a).signs=f.signs from by
         unfold Fl.act;simp only
         repeat(first|split|rfl|contradiction)]
        omega
      ·omega
theorem Zmj:∀(l:List At) (f:Ft),(∀a∈l,AOk a)→MI f→(l.foldl Fl.doA f).signs.length≤f.signs.length+400*l.length
 |[],f,_,_=>by simp
 |a::l,f,hl,h=>by
  have h1:=Zvo h (hl a (by simp))
  have h2:=Zmj l (Fl.doA f a) (fun x hx=>hl x (by simp[hx])) (h.doA (hl a (by simp)))
  simp only[List.foldl_cons,List.length_cons]
  omega
theorem Sec.of_list{l cs:List Value}(hb:Blk w g t l.toArray)(h:(l.drop off).take cs.length=cs)(hn:off+cs.length≤l.length):Sec w g off cs :=
 ⟨t,_,hb,by simpa using hn,fun j hj=>by
  have e:cs[j]?=((l.drop off).take cs.length)[j]?:=by rw[h]
  rw[e,List.getElem?_take_of_lt hj,List.getElem?_drop]
  simp⟩
def ndZ:List Value:=[.int .i64 0,.bool false,.int .i64 0,.slice none 0 0,.slice none 0 0,.slice none 0 0,.slice none 0 0,.slice none 0 0,.pointer none,.slice none 0 0,.slice none 0 0,.slice none 0 0,.int .i64 0,.slice none 0 0,.int .i64 0]
def stC(rogue:Int)(k:Nat):List Value :=
 .int .i64 rogue::((if 0<k then ndC (fresh 0) nilV else ndZ)++((if 1<k then ndC (fresh 1) nilV else ndZ)++((if 2<k then ndC (fresh 2) nilV else ndZ)++((if 3<k then ndC (fresh 3) nilV else ndZ)++[.slice none 0 0,.slice none 0 0,.slice none 0 0]))))
theorem FtAt.start{gf:Nat}{rogue:Int}(hb:Blk w gf 119 (stC rogue 4).toArray):FtAt (Fl.mark (fun _=>none) gf (some (8,0))) w gf (Fl.start rogue):=by
 have hm:Fl.mark (fun _=>none) gf (some (8,0)) gf=some (8,0):=by unfold Fl.mark;simp
 have hlt:=hb.lt;refine⟨⟨fun b hbb=>?_,fun b k h=>?_⟩,rfl,⟨hm,Sec.of_list hb rfl (Nat.le_of_ble_eq_true rfl),_,Sec.of_list hb rfl (Nat.le_of_ble_eq_true rfl),RSl.nil _ _ _ _⟩,fun i hi=>?_,⟨_,Sec.of_list hb rfl (Nat.le_of_ble_eq_true rfl),Row.nil _ _ _ _ _ _⟩,⟨_,Sec.of_list hb rfl (Nat.le_of_ble_eq_true rfl),Row.nil _ _ _ _ _ _⟩⟩
 ·unfold Fl.mark;rw[if_neg (by omega)]
 ·unfold Fl.mark at h;split at h<;>cases h
 ·have:i=0∨i=1∨i=2∨i=3:=by omega
  rcases this with rfl|rfl|rfl|rfl<;>exact⟨hm,nilV,Sec.of_list hb rfl (Nat.le_of_ble_eq_true rfl),Zo4 _ _ _ _⟩
end Fl
theorem Zl6(k n p:Int)(s:ByteArray)(w:World)(hs:s.size≤140737488355328) :
 Calls Tryz.prog 50 #[.agg #[.int .i64 k,.int .i64 n,.int .i64 p,.string s]] w fun e w'=>e=.returned (.int .i64 (actF k n p s))∧Below w.heap.size w w':=by
 have Hq:Hid (actF k n p s=if !inB k 1 10 then 3 else if hN k&& !inB n 0 3||hP k&& !inB p 0 400000 then 2 else if hT k&&decide (4000<s.size)then 1
  else if !hN k&&n != 0|| !hP k&&p != 0|| !hT k&& !(s.toList==[])then 4 else 0):=rfl
 by_cases hk1:k<1
 ·go_enter Tryz.func50,Tryz.ntmps50
  go_wp2;go_ret
  exact⟨Zaj (by
   rw[Hq.out];have:inB k 1 10=false:=by(simp[inB];omega)
   simp[this]),(Below.refl _ _).alloc (Nat.le_refl _) _⟩
 by_cases hk2:10<k
 ·go_enter Tryz.func50,Tryz.ntmps50
  go_wp2;go_ret
  exact⟨Zaj (by
   rw[Hq.out];have:inB k 1 10=false:=by(simp[inB];omega)
   simp[this]),(Below.refl _ _).alloc (Nat.le_refl _) _⟩
 have Hk:Hid (inB k 1 10=true):=by show _=_;simp[inB];omega
 cases h1:hN k<;>cases h2:hP k<;>cases h3:hT k
 all_goals
  go_enter Tryz.func50,Tryz.ntmps50
  go_wp2_with (go_at_call 82;refine(has_any _ _).mono ?_;rintro e w' ⟨rfl,rfl⟩)
 all_goals
  go_ret;refine⟨Zaj ?_,(Below.refl _ _).alloc (Nat.le_refl _) _⟩;rw[Hq.out,Hk.out];clear Hq Hk hs
  first
   |(simp[*];done)
   |(simp[*,inB];done)
   |(simp[*,inB];omega)
end Go.Proofs.YtinibgklgehdpaaGreatDoor
