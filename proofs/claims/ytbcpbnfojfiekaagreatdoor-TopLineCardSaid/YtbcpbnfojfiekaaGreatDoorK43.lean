/- A part of what the last text stands on. -/
import Derived.Test.YtbcpbnfojfiekaaGreatDoorK39
import Derived.Test.YtbcpbnfojfiekaaGreatDoorK40
namespace Go.Proofs.YtbcpbnfojfiekaaGreatDoor
open Go.ChangeShapes Go.WideShapes Go.ChangeAt Go.RowKit Go.Proofs.Tryz Qa Qb Qc
set_option linter.all false
set_option maxHeartbeats 20000000
set_option maxRecDepth 100000
variable{w:World}{t:TypeId}{g off:Nat}
theorem Chg.row{G:List Nat}{a b c:World}{r:Option Nat}(h:Chg G a b)(d:b.grownBy c r)(f:∀k,r=some k→a.heap.size≤k):Chg G a c:=by
 cases r with
 |none=>exact h.trans (.of_grown d (by simp))
 |some k=>exact((h.sub (G':=k::G) (fun g d=>.inl (List.mem_cons_of_mem _ d))).trans (.of_grown d (by simp))).sub (fun g e=>by
  rcases List.mem_cons.1 e with rfl|e
  ·exact .inr (f _ rfl)
  ·exact .inl e)
theorem Zcq{G:List Nat}{a b:World}{gh B:Nat}(k:Chg G a b)(j:∀g∈G,g=gh):VLe (View.from (View.but a.cell? (some gh)) B) (View.from (View.but b.cell? (some gh)) B):=fun ad v e=>by
 unfold View.from View.but at e⊢
 split at e
 ·cases e
 ·rename_i i
  rw[if_neg i]
  split at e
  ·cases e
  ·rename_i d
   rw[if_neg d]
   have c:=World.block_lt_of_cell? a ad e
   exact(World.cell?_of_block (k.block ad.block c (fun f=>d (by rw[j _ f])))).trans e
namespace Fl
def RVw(h:View)(cs:List Value)(x:Vw):Prop:=∃vc vb vv vp,cs=[.bool x.up,.int .i64 x.round,vc,vb,vv,vp]∧RCrts h vc x.certs∧RBats h vb x.bats∧RSlots h vv x.votes∧RTexts h vp x.pool
theorem RVw.mono:Mono RVw:=fun h l cs x ⟨a,b,c,d,e,g,k,j,i⟩ f=>⟨a,b,c,d,e,g.mono RCrt.mono f,k.mono RBat.mono f,j.mono RSlot.mono f,i.mono f⟩
theorem Zv5(g off:Nat)(n:Nd)(vtx vba vta vda:Value)(w:World)(h1:w.cell? ⟨g,off+1,none⟩=some (.bool n.up))(h3:w.cell? ⟨g,off+3,none⟩=some vtx)(h4:w.cell? ⟨g,off+4,none⟩=some vba)(h6:w.cell? ⟨g,off+6,none⟩=some vta)(h7:w.cell? ⟨g,off+7,none⟩=some vda)(rtx:RTexts w.cell? vtx n.txs)(rba:RBats w.cell? vba n.bats)(rta:RSlots w.cell? vta n.table)(rda:RCrts w.cell? vda n.dag)(hT:Tabs w.cell?) :
 Calls prog 37 #[.pointer (some ⟨g,off,none⟩)] w fun e w'=>∃cs:Array Value,e=.returned (.agg cs)∧Below w.heap.size w w'∧RVw (View.from w'.cell? w.heap.size) cs.toList (view n):=by
 obtain⟨txA,txc,rfl,-⟩:=id rtx;obtain⟨baA,bac,rfl,-⟩:=id rba;obtain⟨taA,tac,rfl,-⟩:=id rta;obtain⟨daA,dac,rfl,-⟩:=id rda;obtain⟨UP,sp⟩:∃b,Hid (n.up=b):=⟨_,rfl⟩;rw[sp.out]at h1;have gy:=Zb rtx.len;go_enter func37,ntmps37;go_upto_region 1 with fail;refine Zo fun W0 s3 a0 H=>?_
 have af:=hT.mono (Zaa H);have q1:=Zaa H _ _ h1;have q3:=Zaa H _ _ h3;have q4:=Zaa H _ _ h4;have q6:=Zaa H _ _ h6;have q7:=Zaa H _ _ h7;have rtx0:=rtx.mono (Zaa H);have rba0:=rba.mono RBat.mono (Zaa H);have rta0:=rta.mono RSlot.mono (Zaa H);have rda0:=rda.mono RCrt.mono (Zaa H);have aa:=H.size;clear h1 h3 h4 h6 h7 rtx rba rta rda hT a0
 go_cut [3] (fun p w'=>∃gh pA pc,p=.pointer (some ⟨gh,0,none⟩)∧W0.heap.size≤gh∧Blk w' gh 44 #[.bool UP,.int .i64 0,.slice none 0 0,.slice none 0 0,.slice none 0 0,.slice pA n.txs.length pc]∧Below W0.heap.size W0 w'∧RTexts (View.from (View.but w'.cell? (some gh)) W0.heap.size) (.slice pA n.txs.length pc) n.txs)
 case first =>
  refine Zt (fun w'=>Below W0.heap.size W0 w') (fun w'=>Below W0.heap.size W0 w') [12] (.q 0 (.q 1 (.q 2 (.q 3 (.q 4 (.q 5 (.q 6 (.q 7 (.q 8 (.alt 9 (.q 10 (.l 11 (.l 12 .nil))) 11 (.l 9 (.q 10 (.l 12 .nil))))))))))))) ?_ ?_
  ·exact⟨Zad _,Zad _⟩
  intro W3 _ m
  repeat((first|refine pq (h:=⟨_,fun w' r=>by(have x1:=Zaa r _ _ q1;have x3:=Zaa r _ _ q3;go_simp;exact rfl),?_⟩)|refine Zq ?_);simp only[sx])
  refine Zcm ?_ ?_
  ·refine Zd fun K f=>?_
   try simp only[sy]
   go_simp;refine(Zbv _ n.txs _ (rtx0.mono (Zaa m))).mono ?_;rintro e w5 ⟨v5,rfl,x,o5⟩;have G:=m.trans (x.mono m.size);have g6:=m.size;have a6:=G.size;have o5len:=gy.out;have rp5:=o5.reads_from o5len (b0:=W0.heap.size) (by omega) (g:=none) (by simp);obtain⟨A5,c5,rfl⟩:=o5.form;clear o5;refine f.out _ _ (G) fun r=>?_
   clear f K
   try simp only[sx]
   repeat(refine Zq ?_;simp only[sx])
   refine Zd fun K f=>?_
   try simp only[sy]
   go_simp;have s9:=Blk.new w5 44 #[.bool false,.int .i64 0,.slice none 0 0,.slice none 0 0,.slice none 0 0,.slice none 0 0];have F:=Zac w5 (.cells #[.bool false,.int .i64 0,.slice none 0 0,.slice none 0 0,.slice none 0 0,.slice none 0 0] 44);refine f.out _ _ (G.trans (F.mono G.size)) fun r=>?_
   clear f K
   try simp only[sx]
   refine Zc fun K f=>?_
   try simp only[sy]
   refine Zh 6 s9 ?_;intro w7 J t;have hp:Below w5.heap.size w5 w7:=Zab F F.size t (by intro k e;injection e;omega);refine f.out _ _ ?_;clear f K
   try simp only[sx]
   refine Zai ?_;go_wp2_with fail;go_meet;refine⟨_,A5,c5,rfl,G.size,J,G.trans (hp.mono G.size),rp5.mono ?_⟩;intro a v e;unfold View.from View.but at e⊢;split at e
   ·cases e
   ·rename_i h1;rw[if_neg h1];split at e
    ·cases e
    ·have:=World.block_lt_of_cell? w5 a e;rw[if_neg (by intro q;injection q;omega)];exact Zaa hp _ _ e
  ·refine Zd fun K f=>?_
   try simp only[sy]
   go_simp;have s9:=Blk.new W3 44 #[.bool false,.int .i64 0,.slice none 0 0,.slice none 0 0,.slice none 0 0,.slice none 0 0];have F:=Zac W3 (.cells #[.bool false,.int .i64 0,.slice none 0 0,.slice none 0 0,.slice none 0 0,.slice none 0 0] 44);have g6:=m.size;refine f.out _ _ (m.trans (F.mono m.size)) fun r=>?_
   clear f K
   try simp only[sx]
   repeat(refine Zq ?_;simp only[sx])
   refine Zd fun K f=>?_
   try simp only[sy]
   go_simp;refine(Zbv _ n.txs _ ((rtx0.mono (Zaa m)).mono (Zaa F))).mono ?_;rintro e w5 ⟨v5,rfl,x,o5⟩;have su:=F.size;have gb:=F.trans (x.mono su);have sk:=s9.kept x;have si:=o5.own.lt;have o5len:=gy.out;have a5:(W3.alloc (.cells #[.bool false,.int .i64 0,.slice none 0 0,.slice none 0 0,.slice none 0 0,.slice none 0 0] 44)).heap.size=W3.heap.size+1:=by simp
   rw[a5]at si o5;have ap:=gb.size;have rp5:=o5.reads_from o5len (b0:=W0.heap.size) (by omega) (g:=some W3.heap.size) (by intro k e;injection e;omega);obtain⟨A5,c5,rfl⟩:=o5.form;clear o5;refine f.out _ _ (m.trans (gb.mono m.size)) fun r=>?_
   clear f K
   try simp only[sx]
   repeat(refine Zq ?_;simp only[sx])
   refine Zc fun K f=>?_
   try simp only[sy]
   refine Zh 6 sk ?_;intro w7 J t;have hp:Below W0.heap.size W0 w7:=Zab (m.trans (gb.mono m.size)) (by omega) t (by intro k e;injection e;omega);refine f.out _ _ ?_;clear f K
   try simp only[sx]
   refine Zai ?_;go_wp2_with fail;go_meet;refine⟨_,A5,c5,rfl,m.size,J,hp,rp5.mono ?_⟩;intro a v e;unfold View.from View.but at e⊢;split at e
   ·cases e
   ·rename_i h1;rw[if_neg h1];split at e
    ·cases e
    ·rename_i h2;rw[if_neg h2];exact t.cell e h2
 case rest =>
  obtain⟨gh,pA,pc,rfl,V,X,hs,rp⟩:=hcut;obtain⟨w1,a8⟩:∃w1:World,w1=wc:=⟨_,rfl⟩;subst a8;have a9:=hs.size;have x7:=Zaa hs _ _ q7;have rda1:=rda0.mono RCrt.mono (Zaa hs);obtain⟨RV,sh⟩:∃q,Hid (rndV n.dag=q):=⟨_,rfl⟩;obtain⟨DE,ag⟩:∃q,Hid (dagF hD cF n.dag=q):=⟨_,rfl⟩;have sa:=Zka _ n.dag w1 rda1 (af.mono (Zaa hs));rw[sh.out,ag.out]at sa;go_wp2_with fail;refine sa.mono ?_;rintro e w2 ⟨rfl,s8⟩;have O:=X.kept s8;go_wp2_with (refine Zfs (n:=1) rfl rfl rfl rfl (by kernel_rfl) rfl O (by simp) rfl ?_);intro w3 hx sz;have hx:Blk w3 gh 44 #[.bool UP,.int .i64 RV,.slice none 0 0,.slice none 0 0,.slice none 0 0,.slice pA n.txs.length pc]:=hx;have c2:Chg [gh] w1 w3:=(Chg.of_below s8 (Za _)).trans (.of_grown sz (by simp));have hv:Below W0.heap.size W0 w3:=hs.trans (c2.below (by simpa using V) a9);have rp3:=rp.mono (Zcq c2 (by simp));clear O X sa c2 sz s8 rda1 x7 rp hs;have x7:=Zaa hv _ _ q7;have g6:=hv.size;have ao:=hx.lt;obtain⟨_,gs,gv,h5⟩:=RCrts.at rda0;have N:=Zb h5;clear h5;obtain⟨l,hl⟩:∃l,Hid (n.dag=l):=⟨_,rfl⟩;simp only[hl.out]at N gs gv x7;rw[hl.out];obtain⟨w3h,al⟩:∃z,Hid (w3.heap.size=z):=⟨_,rfl⟩;go_wp2_with fail
  go_loopw [5,6,37] (fun _ _ i wr=>∃k:Nat,k≤l.length∧i=.int .i64 k∧∃v',Blk wr gh 44 #[.bool UP,.int .i64 RV,v',.slice none 0 0,.slice none 0 0,.slice pA n.txs.length pc]∧OwnSl 5 (RFrom w3.heap.size RCrt) 79 wr w3.heap.size v' (l.take k)∧Chg [gh] w3 wr) (fun _ _ i _=>l.length-(intOf i).toNat)
  case atStart=>exact⟨0,Zf _,rfl,_,hx,OwnSl.nil _ _ _ _ _,Chg.refl _ _⟩
  case round =>
   obtain⟨k,hk,rfl,v',X,c,j⟩:=hrel;have sl:=j.size
   by_cases Z:k<l.length
   ·obtain⟨b0,o0,ub,up,uv,rfl,q0,q1,q2,q3,q4,rb,rp,rv⟩:=N.out k Z;have B:Below W0.heap.size W0 wr:=hv.trans (j.below (by simpa using V) g6);have c0:=Zaa B _ _ q0;have c1:=Zaa B _ _ q1;have c2:=Zaa B _ _ q2;have c3:=Zaa B _ _ q3;have c4:=Zaa B _ _ q4;have rb':=rb.mono Ze (Zaa B);have rp':=rp.mono Ze (Zaa B);have rv':=rv.mono (Zaa B);have Hn:=Zb (Zn Z);have E:=Zb (show(l.take k).length=k by simp;omega);obtain⟨E1A,E1c,rfl,-⟩:=id rb;obtain⟨E2A,E2c,rfl,-⟩:=id rp;obtain⟨E3A,E3c,rfl,-⟩:=id rv;clear q0 q1 q2 q3 q4 rb rp;generalize l.take k=L at c Hn E;generalize l[k]=y at *;have h0:(k:Int)<l.length:=by omega
    have o:=c.lt;go_upto_region 6 with fail;refine Zo fun W2 hX hw A=>?_
    have d0:=hX.cell 0;have d1:=hX.cell 1;have d2:=hX.cell 2;have d3:=hX.cell 3;simp at d0 d1 d2 d3;go_upto_region 7 with fail;refine Zo fun W3 hY av gg=>?_
    have I:Below wr.heap.size wr W3:=A.trans (gg.mono (by omega));have sm:=hX.kept gg;rw[hw]at hY;have rb3:=rb'.mono Ze (Zaa I);have rp3':=rp'.mono Ze (Zaa I);have rv3:=rv'.mono (Zaa I);have g4:=c.kept (RFrom.mono RCrt.mono) I;have gx:=X.kept I;have hb:=((c.kept (RFrom.mono RCrt.mono) A).toBut (RFrom.mono RCrt.mono)).kept (RBut.mono (RFrom.mono RCrt.mono)) gg;rw[hw]at hb;have g0:Chg [gh] w3 W3:=j.trans (Chg.of_below I (Za _));obtain⟨nA,nc,rfl⟩:=g4.form;clear c0 c1 c2 c3 c4 d0 d1 d2 d3 rb' rp' rv' hX X c j B;refine Zt (fun w'=>Below W3.heap.size W3 w') (fun w'=>Blk w' (wr.heap.size+1) 76 #[.int .i64 y.hdr.author,.int .i64 y.hdr.round,.slice E1A y.hdr.batches.length E1c,.slice E2A y.hdr.parents.length E2c]) [6,7,8,9] (.q 0 (.q 1 (.q 3 (.q 4 (.l 2 (.qc 6 (.l 5 (.l 7 (.qc 8 (.l 9 .nil)))))))))) ?_ ?_
    ·exact⟨Zad _,hY.kept (Zad _)⟩
    intro W4 s s5
    repeat((first|refine pq (h:=⟨_,fun w' r=>by(have y2:=r.cell 2;have y3:=r.cell 3;simp at y2 y3;go_simp;exact rfl),?_⟩)|refine Zq ?_);simp only[sx])
    refine Zd fun K f=>?_
    try simp only[sy]
    go_simp;refine(Zmf _ y.hdr.batches _ (rb3.mono Ze (Zaa s))).mono ?_;rintro e w5 ⟨tb,rfl,x,s1⟩;have G:=s.trans (x.mono s.size);have sf:=hY.kept G;refine f.out _ _ (sf) fun r=>?_
    clear f K
    try simp only[sx]
    repeat(refine Zq ?_;simp only[sx])
    refine Zd fun K f=>?_
    try simp only[sy]
    go_simp;refine(Zmf _ y.hdr.parents _ (rp3'.mono Ze (Zaa G))).mono ?_;rintro e w6 ⟨tp,rfl,F,s2⟩;have ht:=G.trans (F.mono G.size);have s6:=hY.kept ht;obtain⟨A1,c1',rfl,-⟩:=id s1;obtain⟨A2,c2',rfl,-⟩:=id s2;refine f.out _ _ (s6) fun r=>?_
    clear f K
    try simp only[sx]
    repeat(refine Zq ?_;simp only[sx])
    refine Zc fun K f=>?_
    try simp only[sy]
    refine Zau (n:=1) rfl rfl rfl (by kernel_rfl) rfl s6 (by simp) rfl ?_;intro w7 gi t;have gi:Blk w7 (wr.heap.size+1) 76 #[.int .i64 y.hdr.author,.int .i64 y.hdr.round,.slice A1 y.hdr.batches.length c1',.slice E2A y.hdr.parents.length E2c]:=gi;refine f.out _ _ ?_;clear f K
    try simp only[sx]
    repeat(refine Zq ?_;simp only[sx])
    refine Zc fun K f=>?_
    try simp only[sy]
    refine Zau (n:=1) rfl rfl rfl (by kernel_rfl) rfl gi (by simp) rfl ?_;intro w8 ga gc;have ga:Blk w8 (wr.heap.size+1) 76 #[.int .i64 y.hdr.author,.int .i64 y.hdr.round,.slice A1 y.hdr.batches.length c1',.slice A2 y.hdr.parents.length c2']:=ga;refine f.out _ _ ?_;clear f K
    try simp only[sx]
    repeat(refine Zq ?_;simp only[sx])
    refine Zai ?_;have ar:=g0.size;have ss:∀k,(Value.slice nA L.length nc).ownBlock=some k→k≠wr.heap.size+1:=fun k hk=>by have:=(o k hk).2;omega
    have hc:(Value.slice nA L.length nc).ownBlock≠some (wr.heap.size+1):=fun e=>ss _ e rfl
    have sj:gh≠wr.heap.size+1:=by omega
    have c68:Chg [wr.heap.size+1] w6 w8:=(Chg.of_grown t (by simp)).trans (.of_grown gc (by simp));have g8:=OwnSl.ofBut (RFrom.mono RCrt.mono) (((hb.kept (RBut.mono (RFrom.mono RCrt.mono)) ht).butGrown (RFrom.mono RCrt.mono) t hc).butGrown (RFrom.mono RCrt.mono) gc hc);have sd:=s.size;have a6:=G.size;have ax:=ht.size;have aw:=c68.size;have s4:=(gx.kept ht).chg c68 (by simpa using sj);have s0:=(sm.kept ht).chg c68 (by simp);have t1:=s1.mono Ze ((Za0 W4.heap.size (Zaa F)).trans (Zi7 c68 (by simp;omega)));have t2:=s2.mono Ze (Zi7 c68 (by simp;omega));have g3:Chg [gh] w3 w8:=((g0.trans (Chg.of_below ht (Za _))).row t (fun q e=>by injection e;omega)).row gc (fun q e=>by injection e;omega);have rv8:=rv.mono (Zaa (hv.trans (g3.below (by simpa using V) g6)));clear g4 hb gx sm hY sf s6 gi rb3 rp3' s1 s2 t gc x F A gg I;go_upto_region 8 with fail;refine Zt (fun w'=>Below w8.heap.size w8 w') (fun w'=>Blk w' gh 44 #[.bool UP,.int .i64 RV,.slice nA L.length nc,.slice none 0 0,.slice none 0 0,.slice pA n.txs.length pc]∧Blk w' (wr.heap.size+1) 76 #[.int .i64 y.hdr.author,.int .i64 y.hdr.round,.slice A1 y.hdr.batches.length c1',.slice A2 y.hdr.parents.length c2']∧Blk w' wr.heap.size 79 #[.int .i64 y.hdr.author,.int .i64 y.hdr.round,.slice E1A y.hdr.batches.length E1c,.slice E2A y.hdr.parents.length E2c,.slice E3A y.voters.length E3c]) [9,10] (.q 0 (.q 1 (.q 2 (.q 3 (.q 4 (.l 5 (.q 6 (.l 7 (.l 8 (.qc 9 (.l 10 .nil))))))))))) ?_ ?_
    ·exact⟨Zad _,s4.kept (Zad _),ga.kept (Zad _),s0.kept (Zad _)⟩
    intro W9 g9 s5
    repeat((first|refine pq (h:=⟨_,fun w' r=>by(have h2:=r.1.cell 2;have y0:=r.2.1.cell 0;have y1:=r.2.1.cell 1;have y2:=r.2.1.cell 2;have y3:=r.2.1.cell 3;have x4:=r.2.2.cell 4;simp at h2 y0 y1 y2 y3 x4;go_simp;exact rfl),?_⟩)|refine Zq ?_);simp only[sx])
    refine Zd fun K f=>?_
    try simp only[sy]
    go_simp;refine(Zhe _ y.voters _ (rv8.mono (Zaa g9))).mono ?_;rintro e w10 ⟨tv,rfl,sn,o10⟩;have D:=g9.trans (sn.mono g9.size);have ay:=g9.size;have an:=D.size;have Q:=g8.kept (RFrom.mono RCrt.mono) D;have hm:=s4.kept D;have ho:=ga.kept D;have hn:=s0.kept D
    have rR:∀d,tv=d→RFrom w3.heap.size RCrt (View.but w10.cell? (Value.slice nA L.length nc).ownBlock) [.int .i64 y.hdr.author,.int .i64 y.hdr.round,.slice A1 y.hdr.batches.length c1',.slice A2 y.hdr.parents.length c2',d] y:=by
     rintro d rfl;refine⟨_,_,_,rfl,?_,?_,?_⟩
     ·exact t1.mono Ze ((Za0 W4.heap.size (Zaa D)).trans (Zbb (by omega) (fun g hg=>by have:=(o g hg).2;omega)))
     ·exact t2.mono Ze ((Za0 w5.heap.size (Zaa D)).trans (Zbb (by omega) (fun g hg=>by have:=(o g hg).2;omega)))
     ·exact o10.reads_from rv8.len (by omega) (fun g hg=>by have:=(o g hg).2;omega)
    obtain⟨A3,c3',rfl⟩:=o10.form;have rR:=rR _ rfl;clear o10;refine f.out _ _ (⟨hm,ho,hn⟩) fun r=>?_
    clear f K
    try simp only[sx]
    repeat(refine Zq ?_;simp only[sx])
    refine Zd fun K f=>?_
    try simp only[sy]
    go_simp;have hr:=Zac w10 (.cells #[.int .i64 y.hdr.author,.int .i64 y.hdr.round,.slice A1 y.hdr.batches.length c1',.slice A2 y.hdr.parents.length c2',.slice A3 y.voters.length c3'] 79);refine f.out _ _ (⟨hm.kept hr,ho.kept hr,hn.kept hr⟩) fun r=>?_
    clear f K
    try simp only[sx]
    repeat(refine Zq ?_;simp only[sx])
    refine Zd fun K f=>?_
    try simp only[sy]
    refine Zbh (n:=140737488355328) (RFrom.mono RCrt.mono) y [.int .i64 y.hdr.author,.int .i64 y.hdr.round,.slice A1 y.hdr.batches.length c1',.slice A2 y.hdr.parents.length c2',.slice A3 y.voters.length c3'] Zl1 _ _ rfl rfl Q (W:=w10) (Zm _ _) (by omega) rfl rfl rfl rfl rR (Za _) (by rw[E.out];omega) (by rw[E.out];omega) (fun v2 w12 hh am Y=>?_);have hy:=hm.grown Y (Q.low_ne (by omega));have gj:=ho.grown Y (fun e=>hc e.symm);have gq:=hn.grown Y (fun e=>by have:=(o _ e.symm).2;omega);have g5:(L++[y]).length=k+1:=by rw[Zl,E.out];rfl
    obtain⟨mA,mc,h9⟩:=hh.form;rw[g5]at h9;subst h9;rw[←Hn.out]at hh;refine f.out _ _ (⟨hy,gj,gq⟩) fun r=>?_
    clear f K
    try simp only[sx]
    repeat(refine Zq ?_;simp only[sx])
    refine Zc fun K f=>?_
    try simp only[sy]
    refine Zau (n:=1) rfl rfl rfl (by kernel_rfl) rfl hy (by simp) rfl ?_;intro w13 g7 hz;have g7:Blk w13 gh 44 #[.bool UP,.int .i64 RV,.slice mA (k+1) mc,.slice none 0 0,.slice none 0 0,.slice pA n.txs.length pc]:=g7;have so:=hh.low RCrt.mono hz (by omega);have sc:Chg [gh] w3 w13:=((g3.trans (Chg.of_below D (Za _))).row Y (fun q hq=>(o q hq).1)).trans (.of_grown hz (by simp));refine f.out _ _ ?_;clear f K
    try simp only[sx]
    repeat(refine Zq ?_;simp only[sx])
    refine Zai ?_;clear s4 hm hy s0 hn gq ga ho gj g8 Q hh rR hr g9 D Y hz g3 g0 t1 t2 rv rv8;go_wp2;go_roundw
    case rel=>exact⟨k+1,by omega,by go_num,_,g7,so,sc⟩
    case measure=>simp[intOf];omega
   ·have ha:k=l.length:=by omega
    rw[ha,List.take_length]at c;obtain⟨nA,nc,rfl⟩:=c.form;have h0:¬(k:Int)<l.length:=by omega
    clear N ha;have B:Below W0.heap.size W0 wr:=hv.trans (j.below (by simpa using V) g6);have rc:=(c.reads_from (bs:=88) RCrt.mono (by omega)).mono RCrt.mono (Zbb (b':=W0.heap.size) (g:=some gh) (by omega) (fun q e=>by injection e;omega));have rp4:=rp3.mono (Zcq j (by simp));clear c j hx hv rp3 x7 gs gv;obtain⟨wa,ai⟩:∃wa:World,wa=wr:=⟨_,rfl⟩;subst ai;have he:=B.size;have gw:=X.lt;have x4:=Zaa B _ _ q4;obtain⟨_,gn,gu,h5⟩:=RBats.at rba0;have N:=Zb h5;clear h5;obtain⟨lb,sw⟩:∃l,Hid (n.bats=l):=⟨_,rfl⟩;simp only[sw.out]at N gn gu x4;go_wp2_with fail
    go_loopw [8,67] (fun _ i wr=>∃k:Nat,k≤lb.length∧i=.int .i64 k∧∃v',Blk wr gh 44 #[.bool UP,.int .i64 RV,.slice nA l.length nc,v',.slice none 0 0,.slice pA n.txs.length pc]∧OwnSl 3 (RFrom wa.heap.size RBat) 82 wr wa.heap.size v' (lb.take k)∧Chg [gh] wa wr) (fun _ i _=>lb.length-(intOf i).toNat)
    case atStart=>exact⟨0,Zf _,rfl,_,X,OwnSl.nil _ _ _ _ _,Chg.refl _ _⟩
    case round =>
     clear X;obtain⟨k,hk,rfl,v',X,c,j⟩:=hrel;have sl:=j.size
     by_cases Z:k<lb.length
     ·obtain⟨b0,o0,ux,rfl,q0,q1,q2,rx,ae⟩:=N.out k Z;have M:Below W0.heap.size W0 wr:=B.trans (j.below (by simpa using V) he);have c0:=Zaa M _ _ q0;have c1:=Zaa M _ _ q1;have c2:=Zaa M _ _ q2;have rx':=rx.mono (Zaa M);have Hn:=Zb (Zn Z);have E:=Zb (show(lb.take k).length=k by simp;omega);obtain⟨E1A,E1c,rfl,-⟩:=id rx;clear q0 q1 q2 rx;generalize lb.take k=L at c Hn E;generalize lb[k]=y at *;have h0:(k:Int)<lb.length:=by omega
      have o:=c.lt;go_upto_region 13 with fail;refine Zo fun W2 hX hw A=>?_
      have u:=c.kept (RFrom.mono RBat.mono) A;have O:=X.kept A;have h8:Chg [gh] wa W2:=j.trans (Chg.of_below A (Za _));have rx2:=rx'.mono (Zaa A);have rxl:=Zb rx2.len;have ah:=A.size;obtain⟨mA0,mc0,rfl⟩:=u.form;clear c0 c1 c2 rx' hw X c j M;refine Zt (fun w'=>Below W2.heap.size W2 w') (fun w'=>Blk w' gh 44 #[.bool UP,.int .i64 RV,.slice nA l.length nc,.slice mA0 L.length mc0,.slice none 0 0,.slice pA n.txs.length pc]∧Blk w' wr.heap.size 82 #[.int .i64 y.author,.int .i64 y.number,.slice E1A y.txs.length E1c]) [12,13] (.q 0 (.q 1 (.q 2 (.q 3 (.q 4 (.q 5 (.q 6 (.q 7 (.l 8 (.q 9 (.l 10 (.l 11 (.qc 12 (.l 13 .nil)))))))))))))) ?_ ?_
      ·exact⟨Zad _,O.kept (Zad _),hX.kept (Zad _)⟩
      intro W3 m s5
      repeat((first|refine pq (h:=⟨_,fun w' r=>by(have h3:=r.1.cell 3;have x0:=r.2.cell 0;have x1:=r.2.cell 1;have x2:=r.2.cell 2;simp at h3 x0 x1 x2;go_simp;exact rfl),?_⟩)|refine Zq ?_);simp only[sx])
      refine Zd fun K f=>?_
      try simp only[sy]
      go_simp;refine(Zbv _ y.txs _ (rx2.mono (Zaa m))).mono ?_;rintro e w4 ⟨td,rfl,s7,o4⟩;have s:=m.trans (s7.mono m.size);have sg:=m.size;have sd:=s.size;have C:=u.kept (RFrom.mono RBat.mono) s;have S:=O.kept s;have U:=hX.kept s
      have rR:∀d,td=d→RFrom wa.heap.size RBat (View.but w4.cell? (Value.slice mA0 L.length mc0).ownBlock) [.int .i64 y.author,.int .i64 y.number,d] y:=by
       rintro d rfl;exact⟨_,rfl,o4.reads_from rxl.out (by omega) (fun g hg=>by have:=(o g hg).2;omega),ae⟩
      obtain⟨A1,c1',rfl⟩:=o4.form;have rR:=rR _ rfl;clear o4;refine f.out _ _ (⟨S,U⟩) fun r=>?_
      clear f K
      try simp only[sx]
      repeat(refine Zq ?_;simp only[sx])
      refine Zd fun K f=>?_
      try simp only[sy]
      go_simp;have x:=Zac w4 (.cells #[.int .i64 y.author,.int .i64 y.number,.slice A1 y.txs.length c1'] 82);refine f.out _ _ (⟨S.kept x,U.kept x⟩) fun r=>?_
      clear f K
      try simp only[sx]
      repeat(refine Zq ?_;simp only[sx])
      refine Zd fun K f=>?_
      try simp only[sy]
      refine Zbh (n:=140737488355328) (RFrom.mono RBat.mono) y [.int .i64 y.author,.int .i64 y.number,.slice A1 y.txs.length c1'] Zso _ _ rfl rfl C (W:=w4) (Zm _ _) (by omega) rfl rfl rfl rfl rR (Za _) (by rw[E.out];omega) (by rw[E.out];omega) (fun v2 w6 R F T=>?_);have hf:=S.grown T (C.low_ne (by omega));have g1:=U.grown T (fun e=>by have:=(o _ e.symm).2;omega);have g5:(L++[y]).length=k+1:=by rw[Zl,E.out];rfl
      obtain⟨mA,mc,h9⟩:=R.form;rw[g5]at h9;subst h9;rw[←Hn.out]at R;refine f.out _ _ (⟨hf,g1⟩) fun r=>?_
      clear f K
      try simp only[sx]
      repeat(refine Zq ?_;simp only[sx])
      refine Zc fun K f=>?_
      try simp only[sy]
      refine Zau (n:=1) rfl rfl rfl (by kernel_rfl) rfl hf (by simp) rfl ?_;intro w7 J t;have J:Blk w7 gh 44 #[.bool UP,.int .i64 RV,.slice nA l.length nc,.slice mA (k+1) mc,.slice none 0 0,.slice pA n.txs.length pc]:=J;have sb:=R.low RBat.mono t (by omega);have g2:Chg [gh] wa w7:=((h8.trans (Chg.of_below s (Za _))).row T (fun q hq=>(o q hq).1)).trans (.of_grown t (by simp));refine f.out _ _ ?_;clear f K
      try simp only[sx]
      repeat(refine Zq ?_;simp only[sx])
      refine Zai ?_;clear O S hf hX U g1 u C R rR x m s T t h8 rx2;go_wp2;go_roundw
      case rel=>exact⟨k+1,by omega,by go_num,_,J,sb,g2⟩
      case measure=>simp[intOf];omega
     ·have ha:k=lb.length:=by omega
      rw[ha,List.take_length]at c;obtain⟨mA,mc,rfl⟩:=c.form;have h0:¬(k:Int)<lb.length:=by omega
      clear N ha;have M:Below W0.heap.size W0 wr:=B.trans (j.below (by simpa using V) he);have rb:=(c.reads_from (bs:=40) RBat.mono (by omega)).mono RBat.mono (Zbb (b':=W0.heap.size) (g:=some gh) (by omega) (fun q e=>by injection e;omega));have rp5:=rp4.mono (Zcq j (by simp));have rc5:=rc.mono RCrt.mono (Zcq j (by simp));clear c j rp4 rc x4 gn gu B he gw;obtain⟨wb,ab⟩:∃wb:World,wb=wr:=⟨_,rfl⟩;subst ab;have he:=M.size;have gw:=X.lt;have x6:=Zaa M _ _ q6;obtain⟨_,gr,gz,h5⟩:=RSlots.at rta0;have N:=Zb h5;clear h5;obtain⟨lt,gl⟩:∃l,Hid (n.table=l):=⟨_,rfl⟩;simp only[gl.out]at N gr gz x6;go_wp2_with fail
      go_loopw [10,90] (fun _ i wr=>∃k:Nat,k≤lt.length∧i=.int .i64 k∧∃v',Blk wr gh 44 #[.bool UP,.int .i64 RV,.slice nA l.length nc,.slice mA lb.length mc,v',.slice pA n.txs.length pc]∧OwnSl 3 (RFrom wb.heap.size RSlot) 85 wr wb.heap.size v' (lt.take k)∧Chg [gh] wb wr) (fun _ i _=>lt.length-(intOf i).toNat)
      case atStart=>exact⟨0,Zf _,rfl,_,X,OwnSl.nil _ _ _ _ _,Chg.refl _ _⟩
      case round =>
       clear X;obtain⟨k,hk,rfl,v',X,c,j⟩:=hrel;have sl:=j.size
       by_cases Z:k<lt.length
       ·obtain⟨b0,o0,ux,rfl,q0,q1,q2,rx⟩:=N.out k Z;have P:Below W0.heap.size W0 wr:=M.trans (j.below (by simpa using V) he);have c0:=Zaa P _ _ q0;have c1:=Zaa P _ _ q1;have c2:=Zaa P _ _ q2;have rx':=rx.mono (Zaa P);have Hn:=Zb (Zn Z);have E:=Zb (show(lt.take k).length=k by simp;omega);obtain⟨E1A,E1c,rfl,-⟩:=id rx;clear q0 q1 q2 rx;generalize lt.take k=L at c Hn E;generalize lt[k]=y at *;have h0:(k:Int)<lt.length:=by omega
        have o:=c.lt;go_upto_region 18 with fail;refine Zo fun W2 hX hw A=>?_
        have u:=c.kept (RFrom.mono RSlot.mono) A;have O:=X.kept A;have h8:Chg [gh] wb W2:=j.trans (Chg.of_below A (Za _));have rx2:=rx'.mono (Zaa A);have rxl:=Zb rx2.len;have ah:=A.size;obtain⟨kA0,kc0,rfl⟩:=u.form;clear c0 c1 c2 rx' hw X c j P;refine Zt (fun w'=>Below W2.heap.size W2 w') (fun w'=>Blk w' gh 44 #[.bool UP,.int .i64 RV,.slice nA l.length nc,.slice mA lb.length mc,.slice kA0 L.length kc0,.slice pA n.txs.length pc]∧Blk w' wr.heap.size 85 #[.int .i64 y.author,.int .i64 y.round,.slice E1A y.digest.length E1c]) [12,13] (.q 0 (.q 1 (.q 2 (.q 3 (.q 4 (.q 5 (.q 6 (.q 7 (.l 8 (.q 9 (.l 10 (.l 11 (.qc 12 (.l 13 .nil)))))))))))))) ?_ ?_
        ·exact⟨Zad _,O.kept (Zad _),hX.kept (Zad _)⟩
        intro W3 m s5
        repeat((first|refine pq (h:=⟨_,fun w' r=>by(have h4:=r.1.cell 4;have x0:=r.2.cell 0;have x1:=r.2.cell 1;have x2:=r.2.cell 2;simp at h4 x0 x1 x2;go_simp;exact rfl),?_⟩)|refine Zq ?_);simp only[sx])
        refine Zd fun K f=>?_
        try simp only[sy]
        go_simp;refine(Zcj _ y.digest _ (rx2.mono (Zaa m))).mono ?_;rintro e w4 ⟨td,rfl,s7,o4⟩;have s:=m.trans (s7.mono m.size);have sg:=m.size;have sd:=s.size;have C:=u.kept (RFrom.mono RSlot.mono) s;have S:=O.kept s;have U:=hX.kept s
        have rR:∀d,td=d→RFrom wb.heap.size RSlot (View.but w4.cell? (Value.slice kA0 L.length kc0).ownBlock) [.int .i64 y.author,.int .i64 y.round,d] y:=by
         rintro d rfl;exact⟨_,rfl,o4.reads_from rxl.out (by omega) (fun g hg=>by have:=(o g hg).2;omega)⟩
        obtain⟨A1,c1',rfl⟩:=o4.form;have rR:=rR _ rfl;clear o4;refine f.out _ _ (⟨S,U⟩) fun r=>?_
        clear f K
        try simp only[sx]
        repeat(refine Zq ?_;simp only[sx])
        refine Zd fun K f=>?_
        try simp only[sy]
        go_simp;have x:=Zac w4 (.cells #[.int .i64 y.author,.int .i64 y.round,.slice A1 y.digest.length c1'] 85);refine f.out _ _ (⟨S.kept x,U.kept x⟩) fun r=>?_
        clear f K
        try simp only[sx]
        repeat(refine Zq ?_;simp only[sx])
        refine Zd fun K f=>?_
        try simp only[sy]
        refine Zbh (n:=140737488355328) (RFrom.mono RSlot.mono) y [.int .i64 y.author,.int .i64 y.round,.slice A1 y.digest.length c1'] Zku _ _ rfl rfl C (W:=w4) (Zm _ _) (by omega) rfl rfl rfl rfl rR (Za _) (by rw[E.out];omega) (by rw[E.out];omega) (fun v2 w6 R F T=>?_);have hf:=S.grown T (C.low_ne (by omega));have g1:=U.grown T (fun e=>by have:=(o _ e.symm).2;omega);have g5:(L++[y]).length=k+1:=by rw[Zl,E.out];rfl
        obtain⟨kA,kc,h9⟩:=R.form;rw[g5]at h9;subst h9;rw[←Hn.out]at R;refine f.out _ _ (⟨hf,g1⟩) fun r=>?_
        clear f K
        try simp only[sx]
        repeat(refine Zq ?_;simp only[sx])
        refine Zc fun K f=>?_
        try simp only[sy]
        refine Zau (n:=1) rfl rfl rfl (by kernel_rfl) rfl hf (by simp) rfl ?_;intro w7 J t;have J:Blk w7 gh 44 #[.bool UP,.int .i64 RV,.slice nA l.length nc,.slice mA lb.length mc,.slice kA (k+1) kc,.slice pA n.txs.length pc]:=J;have sb:=R.low RSlot.mono t (by omega);have g2:Chg [gh] wb w7:=((h8.trans (Chg.of_below s (Za _))).row T (fun q hq=>(o q hq).1)).trans (.of_grown t (by simp));refine f.out _ _ ?_;clear f K
        try simp only[sx]
        repeat(refine Zq ?_;simp only[sx])
        refine Zai ?_;clear O S hf hX U g1 u C R rR x m s T t h8 rx2;go_wp2;go_roundw
        case rel=>exact⟨k+1,by omega,by go_num,_,J,sb,g2⟩
        case measure=>simp[intOf];omega
       ·have ha:k=lt.length:=by omega
        rw[ha,List.take_length]at c;obtain⟨kA,kc,rfl⟩:=c.form;have h0:¬(k:Int)<lt.length:=by omega
        clear N ha;have P:Below W0.heap.size W0 wr:=M.trans (j.below (by simpa using V) he);have rs:=(c.reads_from (bs:=40) RSlot.mono (by omega)).mono RSlot.mono (Zbb (b':=W0.heap.size) (g:=some gh) (by omega) (fun q e=>by injection e;omega));have rp6:=rp5.mono (Zcq j (by simp));have rb6:=rb.mono RBat.mono (Zcq j (by simp));have rc6:=rc5.mono RCrt.mono (Zcq j (by simp));have sv:Below W0.heap.size W0 wr:=M.trans (j.below (by simpa using V) he);have ad:=s3.below sv s3.lt;clear c j rp5 rc5 rb gr gz x6;go_wp2_with (first|(refine wpList_load_row rfl 44 _ rfl _ rfl _ _ _ _ X underlying44 rfl (by kernel_rfl) ?_)|(refine Zj 6 ad ?_));intro wz a7 st;go_wp2;refine bodyPost_ret (Zay rfl rfl (by kernel_rfl) (by kernel_rfl) a7 rfl) rfl ?_;have ak:=s3.lt
        have gf:VLe (View.from (View.but wr.cell? (some gh)) W0.heap.size) (View.from wz.cell? w.heap.size):=fun a v e=>by
         unfold View.from at e⊢;split at e
         ·cases e
         ·rename_i h1;rw[if_neg (by omega)];exact st.cell (View.but_le _ _ _ _ e) (by intro q;injection q;omega)
        refine⟨_,rfl,Zab (H.trans (sv.mono aa)) (by omega) st (by intro k e;injection e;omega),.slice nA l.length nc,.slice mA lb.length mc,.slice kA lt.length kc,.slice pA n.txs.length pc,(by show _=[Value.bool n.up,Value.int .i64 (rndV n.dag),_,_,_,_];rw[sp.out,sh.out]),?_,?_,?_,rp6.mono gf⟩
        ·show RCrts _ _ n.dag;rw[hl.out];exact rc6.mono RCrt.mono gf
        ·show RBats _ _ n.bats;rw[sw.out];exact rb6.mono RBat.mono gf
        ·show RSlots _ _ n.table;rw[gl.out];exact rs.mono RSlot.mono gf
theorem Sec.of_list{l cs:List Value}(b:Blk w g t l.toArray)(h:(l.drop off).take cs.length=cs)(hn:off+cs.length≤l.length):Sec w g off cs :=
 ⟨t,_,b,by simpa using hn,fun j a=>by
  have e:cs[j]?=((l.drop off).take cs.length)[j]?:=by rw[h]
  rw[e,List.getElem?_take_of_lt a,List.getElem?_drop]
  simp⟩
def ndZ:List Value:=[.int .i64 0,.bool false,.int .i64 0,.slice none 0 0,.slice none 0 0,.slice none 0 0,.slice none 0 0,.slice none 0 0,.pointer none,.slice none 0 0,.slice none 0 0,.slice none 0 0,.int .i64 0,.slice none 0 0,.int .i64 0]
def stC(rogue:Int)(k:Nat):List Value :=
 .int .i64 rogue::((if 0<k then ndC (fresh 0) nilV else ndZ)++((if 1<k then ndC (fresh 1) nilV else ndZ)++((if 2<k then ndC (fresh 2) nilV else ndZ)++((if 3<k then ndC (fresh 3) nilV else ndZ)++[.slice none 0 0,.slice none 0 0,.slice none 0 0]))))
theorem FtAt.start{gf:Nat}{rogue:Int}(a:Blk w gf 116 (stC rogue 4).toArray):FtAt (Fl.mark (fun _=>none) gf (some (8,0))) w gf (Fl.start rogue):=by
 have c:Fl.mark (fun _=>none) gf (some (8,0)) gf=some (8,0):=by unfold Fl.mark;simp
 have e:=a.lt;refine⟨⟨fun b d=>?_,fun b k h=>?_⟩,rfl,⟨c,Sec.of_list a rfl (Nat.le_of_ble_eq_true rfl),_,Sec.of_list a rfl (Nat.le_of_ble_eq_true rfl),RSl.nil _ _ _ _⟩,fun i hi=>?_,⟨_,Sec.of_list a rfl (Nat.le_of_ble_eq_true rfl),Row.nil _ _ _ _ _ _⟩,⟨_,Sec.of_list a rfl (Nat.le_of_ble_eq_true rfl),Row.nil _ _ _ _ _ _⟩⟩
 ·unfold Fl.mark;rw[if_neg (by omega)]
 ·unfold Fl.mark at h;split at h<;>cases h
 ·have:i=0∨i=1∨i=2∨i=3:=by omega
  rcases this with rfl|rfl|rfl|rfl<;>exact⟨c,nilV,Sec.of_list a rfl (Nat.le_of_ble_eq_true rfl),Zqf _ _ _ _⟩
end Fl
end Go.Proofs.YtbcpbnfojfiekaaGreatDoor
