/- A part of what the last text stands on. -/
import Derived.Test.YtbcpbnfojfiekaaGreatDoorK33
import Derived.Test.YtbcpbnfojfiekaaGreatDoorK36
namespace Go.Proofs.YtbcpbnfojfiekaaGreatDoor
open Go.ChangeShapes Go.WideShapes Go.ChangeAt Go.RowKit Go.Proofs.Tryz Qa Qb Qc
set_option linter.all false
set_option maxHeartbeats 20000000
set_option maxRecDepth 100000
variable{w w':World}{v:Value}{k i j g:Nat}{f:Fl.Ft}{n:Fl.Nd}
namespace Fl
def Ext(s:Nat)(w0 w:World):Prop:=VLe (View.from w0.cell? s) w.cell?
theorem Ext.refl(s:Nat)(w:World):Ext s w w:=View.from_le _ _
theorem Ext.below{s:Nat}{w0:World}(h:Ext s w0 w)(a:Below w.heap.size w w'):Ext s w0 w':=h.trans (Zaa a)
theorem Ext.store{s:Nat}{w0:World}(h:Ext s w0 w)(c:w.grownBy w' (some g))(d:g<s∨w0.heap.size≤g):Ext s w0 w':=fun a v e=>by
 have b:=h a v e
 refine c.cell b (fun e2=>?_)
 injection e2 with e2
 unfold View.from at e
 split at e
 ·cases e
 ·have:=World.block_lt_of_cell? w0 a e
  omega
theorem Ext.hide{s:Nat}{w0 w00:World}{o:Own}(h:Ext s w0 w)(c:Lim o w00)(d:w00.heap.size≤s):VLe (View.from w0.cell? s) (Zas o w):=fun a v e=>by
 have b:=h a v e
 unfold Zas
 unfold View.from at e
 split at e
 ·cases e
 ·rw[c.none a.block (by omega)]
  simpa using b
theorem Znf(n:Nd)(b:Bat)(w:Bool):(store n b w).1.turn=n.turn:=by
 unfold Fl.store put kept;split
 ·rfl
 ·split
  ·split<;>rfl
  ·rfl
theorem Zpu(n:Nd)(m:Msg):(tell n m).turn=n.turn:=by
 have:∀(l:List Int) (n:Nd),(l.foldl (Zco m) n).turn=n.turn:=by
  intro l
  induction l with
  |nil=>intro n;rfl
  |cons a l ih =>
   intro n;rw[List.foldl_cons,ih];unfold Zco send
   split<;>(try split)<;>rfl
 exact this _ _
theorem Zy5(n:Nd):(work1 n).me=n.me:=by
 unfold work1;split
 ·rw[(Zk2 _ _).2.2.2.2];exact Zg5 _ _ _
 ·split
  ·exact Zg5 _ _ _
  ·rfl
theorem Zt6(n:Nd):(work1 n).turn=n.turn:=by
 unfold work1;split
 ·rw[Zpu];exact Znf _ _ _
 ·split
  ·exact Znf _ _ _
  ·rfl
theorem Zy3(n:Nd)(r:Int):(work2 n r).me=n.me∧(work2 n r).turn=n.turn:=by
 have hp:(propose n r).me=n.me∧(propose n r).turn=n.turn:=by
  unfold propose;split
  ·exact⟨rfl,rfl⟩
  ·exact⟨(Zk2 _ _).2.2.2.2,Zpu _ _⟩
 have b:∀(n:Nd) (tw:Int) (m:Msg),(send n tw m).me=n.me∧(send n tw m).turn=n.turn:=fun n tw m=>⟨(Zer n tw m).2.2.2.2.2.2,(Zer n tw m).2.2.2.2.2.1⟩
 have e:∀(ds:List (List UInt8)) (tw:Int) (n:Nd),(ds.foldl (sendB tw) n).me=n.me∧(ds.foldl (sendB tw) n).turn=n.turn:=by
  intro ds tw
  induction ds with
  |nil=>intro n;exact⟨rfl,rfl⟩
  |cons d ds ih =>
   intro n;rw[List.foldl_cons,(ih _).1,(ih _).2];unfold sendB;split
   ·split
    ·exact b _ _ _
    ·exact⟨rfl,rfl⟩
   ·exact⟨rfl,rfl⟩
 have c:∀(h:Hdr) (l:List Int) (n:Nd),(l.foldl (Zej h) n).me=n.me∧(l.foldl (Zej h) n).turn=n.turn:=by
  intro h l
  induction l with
  |nil=>intro n;exact⟨rfl,rfl⟩
  |cons a l ih =>
   intro n;rw[List.foldl_cons,(ih _).1,(ih _).2];unfold Zej;split
   ·exact⟨rfl,rfl⟩
   ·rw[(b _ _ _).1,(b _ _ _).2];exact e _ _ _
 unfold work2;split
 ·exact hp
 ·split
  ·exact hp
  ·split
   ·unfold again;split
    ·exact⟨rfl,rfl⟩
    ·exact c _ _ _
   ·exact⟨rfl,rfl⟩
theorem Zta(h:View)(r:Int):RMsg h (wntM r) (.slice none 0 0) (.slice none 0 0) (.slice none 0 0) (.slice none 0 0) (.slice none 0 0) (.slice none 0 0) (.slice none 0 0) :=
 ⟨RVec.nil _ _ _,RDigs.nil _,RDigs.nil _,RVec.nil _ _ _,RDigs.nil _,RDigs.nil _,RVec.nil _ _ _⟩
structure SealW (n:Nd) (b:Bat) (e:Int) (B:Bool):Prop where
 iff:B=true↔(e=0∧((store n b true).2=true∨has (store n b true).1 b=true))
theorem Zy2(i tb g off:Nat)(n:Nd)(o:Own)(w:World)(hl:Lim o w)(hi:i<5)(hN:NodeAt o w i tb g off n)(hT:Tabs (Zas o w))(hf:NFit n)(s5:0≤n.me∧n.me≤3)(gw:0≤n.turn∧n.turn≤3) :
 Calls prog 104 #[.pointer (some ⟨g,off,none⟩)] w fun e w'=>e=.returned (.tuple #[])∧∃o',NFr i tb g off o w o' w'∧NodeAt o' w' i tb g off (work n):=by
 obtain⟨QR,s4⟩:∃q,Hid (work n=q):=⟨_,rfl⟩;rw[s4.out];have HF:=Zb hf;obtain⟨QE,hE⟩:∃q,Hid (Zkc n.nx n.txs n.me=q):=⟨_,rfl⟩;obtain⟨NX,hp⟩:∃q,Hid (Zho n.nx n.txs n.me=q):=⟨_,rfl⟩;obtain⟨RS,hg⟩:∃q,Hid (Zdm n.nx n.txs n.me=q):=⟨_,rfl⟩;obtain⟨AU,hn⟩:∃q,Hid (Zp4 n.nx n.txs n.me=q):=⟨_,rfl⟩;obtain⟨NU,hq⟩:∃q,Hid (Zp3 n.nx n.txs n.me=q):=⟨_,rfl⟩;obtain⟨TX,hc⟩:∃q,Hid (Znl n.nx n.txs n.me=q):=⟨_,rfl⟩;have HB:Hid (Zii n=⟨AU,NU,TX⟩):=by show _=_;unfold Zii;rw[hn.out,hq.out,hc.out]
 have hv:Hid (work1 n=if QE=0∧((store n ⟨AU,NU,TX⟩ true).2∨has (store n ⟨AU,NU,TX⟩ true).1 ⟨AU,NU,TX⟩)then tell {(store n ⟨AU,NU,TX⟩ true).1 with nx:=NX,txs:=RS } (batM ⟨AU,NU,TX⟩)else if QE=0 then(store n ⟨AU,NU,TX⟩ true).1 else n):=by
  show _=_;unfold work1;rw[hE.out,HB.out,hp.out,hg.out]
 obtain⟨sb,⟨vtx,vba,vdi,vta,vda,vow,vmi,vvo,vtp,vou⟩,S0,R0⟩:=id hN;have s0:=S0.nd0;have s2:=S0.nd2;have s3:=S0.nd3;simp only at s0 s2 s3;have rtx:RTexts w.cell? vtx n.txs:=R0.tx.mono (Zah _ _);have small:=R0.small
 have g1:Hid ((∀s∈RS,s.size≤140737488355328)∧∀s∈TX,s.size≤140737488355328):=by
  refine⟨fun s hs=>?_,fun s hs=>?_⟩
  ·rw[←hg.out]at hs;unfold Zdm at hs;split at hs
   ·cases hs
   ·exact small s (List.mem_of_mem_drop hs)
  ·rw[←hc.out]at hs;unfold Znl at hs;split at hs
   ·cases hs
   ·exact small s (List.mem_of_mem_take hs)
 obtain⟨txA,txc,gf,_⟩:=id rtx;have gf:vtx=.slice txA n.txs.length txc:=gf;subst gf;clear S0 R0 sb hf;go_enter func104,ntmps104;go_upto_region 0 with fail
 go_cut [2,3,4] (fun p q z w'=>∃gA gB e A1 c1 A2 c2,p=.pointer (some ⟨gA,0,none⟩)∧q=.pointer (some ⟨gB,0,none⟩)∧z=.int .i64 e∧w.heap.size≤gA∧w.heap.size≤gB∧Below w.heap.size w w'∧Blk w' gA 105 #[.int .i64 NX,.slice A1 RS.length c1]∧Blk w' gB 82 #[.int .i64 AU,.int .i64 NU,.slice A2 TX.length c2]∧RTexts (Zas o w') (.slice A1 RS.length c1) RS∧RTexts (Zas o w') (.slice A2 TX.length c2) TX∧Hid (e=QE))
 case first =>
  refine Zn6 (fun w'=>Below w.heap.size w w') (fun w'=>Below w.heap.size w w') [17] (.q 0 (.q 1 (.q 2 (.q 3 (.q 4 (.q 5 (.q 6 (.q 7 (.alt3 8 (.q 9 (.q 10 (.q 11 (.q 12 (.alt 13 (.l 14 (.l 15 (.l 16 (.qc 17 .nil)))) 14 (.l 13 (.l 15 (.l 16 (.qc 17 .nil))))))))) 13 (.alt 8 (.q 9 (.q 10 (.q 11 (.q 12 (.l 14 (.l 15 (.l 16 (.qc 17 .nil)))))))) 14 (.l 8 (.q 9 (.q 10 (.q 11 (.q 12 (.l 15 (.l 16 (.qc 17 .nil))))))))) 14 (.alt 8 (.q 9 (.q 10 (.q 11 (.q 12 (.l 13 (.l 15 (.l 16 (.qc 17 .nil)))))))) 13 (.l 8 (.q 9 (.q 10 (.q 11 (.q 12 (.l 15 (.l 16 (.qc 17 .nil)))))))))))))))))) (by kernel_rfl) (by kernel_rfl) (fun _ _ d _ _ h=>by cases d<;>exact h) rfl (by kernel_rfl) ?_ ?_
  ·exact⟨Zad _,Zad _⟩
  intro W3 j F
  repeat(first
   |(refine plt_q (by assumption) rfl rfl ?_;apply Exists.intro;refine⟨fun w' F=>?_,?_⟩;(· (have h1:=Zaa F _ _ s0;have h2:=Zaa F _ _ s2;have h3:=Zaa F _ _ s3;go_simp;exact rfl));simp only[List.getElem_toArray,List.getElem_cons_zero,List.getElem_cons_succ,Act.put,List.setIfInBounds_toArray,List.set_cons_zero,List.set_cons_succ])
   |(refine plt_skip (by assumption) rfl rfl ?_;simp only[List.getElem_toArray,List.getElem_cons_zero,List.getElem_cons_succ,Act.put,List.setIfInBounds_toArray,List.set_cons_zero,List.set_cons_succ]))
  refine plt_alt ?_ ?_ ?_
  ·skip
   refine Zd fun K c=>?_
   try simp only[sy]
   go_simp;refine(Zdn n.nx n.me _ n.txs _ (rtx.mono (Zaa j)) small).mono ?_;rintro e v1 ⟨d1,d2,rfl,hj,r1,r2⟩;rw[hp.out,hn.out,hq.out,hE.out];rw[hg.out]at r1;rw[hc.out]at r2;obtain⟨A1,c1,rfl,h4⟩:=id r1;obtain⟨A2,c2,rfl,Y⟩:=id r2;clear h4 Y;have E:=j.trans (hj.mono j.size);have gv:=hj.size;have ex:Ext W3.heap.size v1 v1:=Ext.refl _ _;refine c.out _ _ (E) fun F=>?_
   clear c K
   try simp only[sx]
   repeat(refine Zq ?_;simp only[sx])
   refine Zcm ?_ ?_
   ·skip
    refine Zd fun K c=>?_
    try simp only[sy]
    go_simp;have r:=Blk.new v1 105 #[.int .i64 0,.slice none 0 0];have D:=Zac v1 (.cells #[.int .i64 0,.slice none 0 0] 105);obtain⟨v2,L⟩:∃y:World,y=v1.alloc (.cells #[.int .i64 0,.slice none 0 0] 105):=⟨_,rfl⟩;rw[←L]at r D⊢;have A:=E.trans (D.mono E.size);have hx:=r.lt;have ex:=ex.below D;refine c.out _ _ (A) fun F=>?_
    clear c K
    try simp only[sx]
    repeat(refine Zq ?_;simp only[sx])
    clear L;refine Zd fun K c=>?_
    try simp only[sy]
    go_simp;have f:=Blk.new v2 82 #[.int .i64 0,.int .i64 0,.slice none 0 0];have m:=Zac v2 (.cells #[.int .i64 0,.int .i64 0,.slice none 0 0] 82);obtain⟨v3,R⟩:∃y:World,y=v2.alloc (.cells #[.int .i64 0,.int .i64 0,.slice none 0 0] 82):=⟨_,rfl⟩;rw[←R]at f m⊢;have J:=A.trans (m.mono A.size);have g3:=f.lt;have r:=r.kept m;have ex:=ex.below m;refine c.out _ _ (J) fun F=>?_
    clear c K
    try simp only[sx]
    repeat(refine Zq ?_;simp only[sx])
    clear R;refine Zd fun K c=>?_
    try simp only[sy]
    refine Zh 2 r ?_;intro v4 C I;have f:=f.grown I (by intro e;injection e;omega);have ex:=ex.store I (by first|(left;omega)|(right;omega));have G:Below w.heap.size w v4:=Zab J J.size I (by intro k e;injection e;have:=j.size;omega);refine c.out _ _ (G) fun F=>?_
    clear c K
    try simp only[sx]
    repeat(refine Zq ?_;simp only[sx])
    refine Zd fun K c=>?_
    try simp only[sy]
    refine Zh 3 f ?_;intro v5 M H;have C:=C.grown H (by intro e;injection e;omega);have ex:=ex.store H (by first|(left;omega)|(right;omega));have N:Below w.heap.size w v5:=Zab G G.size H (by intro k e;injection e;have:=j.size;omega);refine c.out _ _ (N) fun F=>?_
    clear c K
    try simp only[sx]
    repeat(refine Zq ?_;simp only[sx])
    refine Zai ?_;go_wp2_with fail;go_meet;have P:w.heap.size≤v1.heap.size:=by have:=j.size;omega
    have O:w.heap.size≤v2.heap.size:=by have:=j.size;omega
    exact⟨_,_,_,A1,c1,A2,c2,rfl,rfl,rfl,P,O,N,C,M,r1.mono (ex.hide hl (by have:=j.size;omega)),r2.mono (ex.hide hl (by have:=j.size;omega)),rfl⟩
   ·skip
    refine Zd fun K c=>?_
    try simp only[sy]
    go_simp;have f:=Blk.new v1 82 #[.int .i64 0,.int .i64 0,.slice none 0 0];have D:=Zac v1 (.cells #[.int .i64 0,.int .i64 0,.slice none 0 0] 82);obtain⟨v2,L⟩:∃y:World,y=v1.alloc (.cells #[.int .i64 0,.int .i64 0,.slice none 0 0] 82):=⟨_,rfl⟩;rw[←L]at f D⊢;have A:=E.trans (D.mono E.size);have hx:=f.lt;have ex:=ex.below D;refine c.out _ _ (A) fun F=>?_
    clear c K
    try simp only[sx]
    repeat(refine Zq ?_;simp only[sx])
    clear L;refine Zd fun K c=>?_
    try simp only[sy]
    go_simp;have r:=Blk.new v2 105 #[.int .i64 0,.slice none 0 0];have m:=Zac v2 (.cells #[.int .i64 0,.slice none 0 0] 105);obtain⟨v3,R⟩:∃y:World,y=v2.alloc (.cells #[.int .i64 0,.slice none 0 0] 105):=⟨_,rfl⟩;rw[←R]at r m⊢;have J:=A.trans (m.mono A.size);have g3:=r.lt;have f:=f.kept m;have ex:=ex.below m;refine c.out _ _ (J) fun F=>?_
    clear c K
    try simp only[sx]
    repeat(refine Zq ?_;simp only[sx])
    clear R;refine Zd fun K c=>?_
    try simp only[sy]
    refine Zh 2 r ?_;intro v4 C I;have f:=f.grown I (by intro e;injection e;omega);have ex:=ex.store I (by first|(left;omega)|(right;omega));have G:Below w.heap.size w v4:=Zab J J.size I (by intro k e;injection e;have:=j.size;omega);refine c.out _ _ (G) fun F=>?_
    clear c K
    try simp only[sx]
    repeat(refine Zq ?_;simp only[sx])
    refine Zd fun K c=>?_
    try simp only[sy]
    refine Zh 3 f ?_;intro v5 M H;have C:=C.grown H (by intro e;injection e;omega);have ex:=ex.store H (by first|(left;omega)|(right;omega));have N:Below w.heap.size w v5:=Zab G G.size H (by intro k e;injection e;have:=j.size;omega);refine c.out _ _ (N) fun F=>?_
    clear c K
    try simp only[sx]
    repeat(refine Zq ?_;simp only[sx])
    refine Zai ?_;go_wp2_with fail;go_meet;have P:w.heap.size≤v2.heap.size:=by have:=j.size;omega
    have O:w.heap.size≤v1.heap.size:=by have:=j.size;omega
    exact⟨_,_,_,A1,c1,A2,c2,rfl,rfl,rfl,P,O,N,C,M,r1.mono (ex.hide hl (by have:=j.size;omega)),r2.mono (ex.hide hl (by have:=j.size;omega)),rfl⟩
  ·skip
   refine Zd fun K c=>?_
   try simp only[sy]
   go_simp;have r:=Blk.new W3 105 #[.int .i64 0,.slice none 0 0];have hj:=Zac W3 (.cells #[.int .i64 0,.slice none 0 0] 105);obtain⟨v1,g0⟩:∃y:World,y=W3.alloc (.cells #[.int .i64 0,.slice none 0 0] 105):=⟨_,rfl⟩;rw[←g0]at r hj⊢;have E:=j.trans (hj.mono j.size);have gv:=r.lt;refine c.out _ _ (E) fun F=>?_
   clear c K
   try simp only[sx]
   repeat(refine Zq ?_;simp only[sx])
   clear g0;refine Zcm ?_ ?_
   ·skip
    refine Zd fun K c=>?_
    try simp only[sy]
    go_simp;refine(Zdn n.nx n.me _ n.txs _ (rtx.mono (Zaa E)) small).mono ?_;rintro e v2 ⟨d1,d2,rfl,D,r1,r2⟩;rw[hp.out,hn.out,hq.out,hE.out];rw[hg.out]at r1;rw[hc.out]at r2;obtain⟨A1,c1,rfl,h4⟩:=id r1;obtain⟨A2,c2,rfl,Y⟩:=id r2;clear h4 Y;have A:=E.trans (D.mono E.size);have hx:=D.size;have r:=r.kept D;have ex:Ext v1.heap.size v2 v2:=Ext.refl _ _;refine c.out _ _ (A) fun F=>?_
    clear c K
    try simp only[sx]
    repeat(refine Zq ?_;simp only[sx])
    refine Zd fun K c=>?_
    try simp only[sy]
    go_simp;have f:=Blk.new v2 82 #[.int .i64 0,.int .i64 0,.slice none 0 0];have m:=Zac v2 (.cells #[.int .i64 0,.int .i64 0,.slice none 0 0] 82);obtain⟨v3,R⟩:∃y:World,y=v2.alloc (.cells #[.int .i64 0,.int .i64 0,.slice none 0 0] 82):=⟨_,rfl⟩;rw[←R]at f m⊢;have J:=A.trans (m.mono A.size);have g3:=f.lt;have r:=r.kept m;have ex:=ex.below m;refine c.out _ _ (J) fun F=>?_
    clear c K
    try simp only[sx]
    repeat(refine Zq ?_;simp only[sx])
    clear R;refine Zd fun K c=>?_
    try simp only[sy]
    refine Zh 2 r ?_;intro v4 C I;have f:=f.grown I (by intro e;injection e;omega);have ex:=ex.store I (by first|(left;omega)|(right;omega));have G:Below w.heap.size w v4:=Zab J J.size I (by intro k e;injection e;have:=j.size;omega);refine c.out _ _ (G) fun F=>?_
    clear c K
    try simp only[sx]
    repeat(refine Zq ?_;simp only[sx])
    refine Zd fun K c=>?_
    try simp only[sy]
    refine Zh 3 f ?_;intro v5 M H;have C:=C.grown H (by intro e;injection e;omega);have ex:=ex.store H (by first|(left;omega)|(right;omega));have N:Below w.heap.size w v5:=Zab G G.size H (by intro k e;injection e;have:=j.size;omega);refine c.out _ _ (N) fun F=>?_
    clear c K
    try simp only[sx]
    repeat(refine Zq ?_;simp only[sx])
    refine Zai ?_;go_wp2_with fail;go_meet;have P:w.heap.size≤W3.heap.size:=by have:=j.size;omega
    have O:w.heap.size≤v2.heap.size:=by have:=j.size;omega
    exact⟨_,_,_,A1,c1,A2,c2,rfl,rfl,rfl,P,O,N,C,M,r1.mono (ex.hide hl (by have:=j.size;omega)),r2.mono (ex.hide hl (by have:=j.size;omega)),rfl⟩
   ·skip
    refine Zd fun K c=>?_
    try simp only[sy]
    go_simp;have f:=Blk.new v1 82 #[.int .i64 0,.int .i64 0,.slice none 0 0];have D:=Zac v1 (.cells #[.int .i64 0,.int .i64 0,.slice none 0 0] 82);obtain⟨v2,L⟩:∃y:World,y=v1.alloc (.cells #[.int .i64 0,.int .i64 0,.slice none 0 0] 82):=⟨_,rfl⟩;rw[←L]at f D⊢;have A:=E.trans (D.mono E.size);have hx:=f.lt;have r:=r.kept D;refine c.out _ _ (A) fun F=>?_
    clear c K
    try simp only[sx]
    repeat(refine Zq ?_;simp only[sx])
    clear L;refine Zd fun K c=>?_
    try simp only[sy]
    go_simp;refine(Zdn n.nx n.me _ n.txs _ (rtx.mono (Zaa A)) small).mono ?_;rintro e v3 ⟨d1,d2,rfl,m,r1,r2⟩;rw[hp.out,hn.out,hq.out,hE.out];rw[hg.out]at r1;rw[hc.out]at r2;obtain⟨A1,c1,rfl,h4⟩:=id r1;obtain⟨A2,c2,rfl,Y⟩:=id r2;clear h4 Y;have J:=A.trans (m.mono A.size);have g3:=m.size;have r:=r.kept m;have f:=f.kept m;have ex:Ext v2.heap.size v3 v3:=Ext.refl _ _;refine c.out _ _ (J) fun F=>?_
    clear c K
    try simp only[sx]
    repeat(refine Zq ?_;simp only[sx])
    refine Zd fun K c=>?_
    try simp only[sy]
    refine Zh 2 r ?_;intro v4 C I;have f:=f.grown I (by intro e;injection e;omega);have ex:=ex.store I (by first|(left;omega)|(right;omega));have G:Below w.heap.size w v4:=Zab J J.size I (by intro k e;injection e;have:=j.size;omega);refine c.out _ _ (G) fun F=>?_
    clear c K
    try simp only[sx]
    repeat(refine Zq ?_;simp only[sx])
    refine Zd fun K c=>?_
    try simp only[sy]
    refine Zh 3 f ?_;intro v5 M H;have C:=C.grown H (by intro e;injection e;omega);have ex:=ex.store H (by first|(left;omega)|(right;omega));have N:Below w.heap.size w v5:=Zab G G.size H (by intro k e;injection e;have:=j.size;omega);refine c.out _ _ (N) fun F=>?_
    clear c K
    try simp only[sx]
    repeat(refine Zq ?_;simp only[sx])
    refine Zai ?_;go_wp2_with fail;go_meet;have P:w.heap.size≤W3.heap.size:=by have:=j.size;omega
    have O:w.heap.size≤v1.heap.size:=by have:=j.size;omega
    exact⟨_,_,_,A1,c1,A2,c2,rfl,rfl,rfl,P,O,N,C,M,r1.mono (ex.hide hl (by have:=j.size;omega)),r2.mono (ex.hide hl (by have:=j.size;omega)),rfl⟩
  ·skip
   refine Zd fun K c=>?_
   try simp only[sy]
   go_simp;have f:=Blk.new W3 82 #[.int .i64 0,.int .i64 0,.slice none 0 0];have hj:=Zac W3 (.cells #[.int .i64 0,.int .i64 0,.slice none 0 0] 82);obtain⟨v1,g0⟩:∃y:World,y=W3.alloc (.cells #[.int .i64 0,.int .i64 0,.slice none 0 0] 82):=⟨_,rfl⟩;rw[←g0]at f hj⊢;have E:=j.trans (hj.mono j.size);have gv:=f.lt;refine c.out _ _ (E) fun F=>?_
   clear c K
   try simp only[sx]
   repeat(refine Zq ?_;simp only[sx])
   clear g0;refine Zcm ?_ ?_
   ·skip
    refine Zd fun K c=>?_
    try simp only[sy]
    go_simp;refine(Zdn n.nx n.me _ n.txs _ (rtx.mono (Zaa E)) small).mono ?_;rintro e v2 ⟨d1,d2,rfl,D,r1,r2⟩;rw[hp.out,hn.out,hq.out,hE.out];rw[hg.out]at r1;rw[hc.out]at r2;obtain⟨A1,c1,rfl,h4⟩:=id r1;obtain⟨A2,c2,rfl,Y⟩:=id r2;clear h4 Y;have A:=E.trans (D.mono E.size);have hx:=D.size;have f:=f.kept D;have ex:Ext v1.heap.size v2 v2:=Ext.refl _ _;refine c.out _ _ (A) fun F=>?_
    clear c K
    try simp only[sx]
    repeat(refine Zq ?_;simp only[sx])
    refine Zd fun K c=>?_
    try simp only[sy]
    go_simp;have r:=Blk.new v2 105 #[.int .i64 0,.slice none 0 0];have m:=Zac v2 (.cells #[.int .i64 0,.slice none 0 0] 105);obtain⟨v3,R⟩:∃y:World,y=v2.alloc (.cells #[.int .i64 0,.slice none 0 0] 105):=⟨_,rfl⟩;rw[←R]at r m⊢;have J:=A.trans (m.mono A.size);have g3:=r.lt;have f:=f.kept m;have ex:=ex.below m;refine c.out _ _ (J) fun F=>?_
    clear c K
    try simp only[sx]
    repeat(refine Zq ?_;simp only[sx])
    clear R;refine Zd fun K c=>?_
    try simp only[sy]
    refine Zh 2 r ?_;intro v4 C I;have f:=f.grown I (by intro e;injection e;omega);have ex:=ex.store I (by first|(left;omega)|(right;omega));have G:Below w.heap.size w v4:=Zab J J.size I (by intro k e;injection e;have:=j.size;omega);refine c.out _ _ (G) fun F=>?_
    clear c K
    try simp only[sx]
    repeat(refine Zq ?_;simp only[sx])
    refine Zd fun K c=>?_
    try simp only[sy]
    refine Zh 3 f ?_;intro v5 M H;have C:=C.grown H (by intro e;injection e;omega);have ex:=ex.store H (by first|(left;omega)|(right;omega));have N:Below w.heap.size w v5:=Zab G G.size H (by intro k e;injection e;have:=j.size;omega);refine c.out _ _ (N) fun F=>?_
    clear c K
    try simp only[sx]
    repeat(refine Zq ?_;simp only[sx])
    refine Zai ?_;go_wp2_with fail;go_meet;have P:w.heap.size≤v2.heap.size:=by have:=j.size;omega
    have O:w.heap.size≤W3.heap.size:=by have:=j.size;omega
    exact⟨_,_,_,A1,c1,A2,c2,rfl,rfl,rfl,P,O,N,C,M,r1.mono (ex.hide hl (by have:=j.size;omega)),r2.mono (ex.hide hl (by have:=j.size;omega)),rfl⟩
   ·skip
    refine Zd fun K c=>?_
    try simp only[sy]
    go_simp;have r:=Blk.new v1 105 #[.int .i64 0,.slice none 0 0];have D:=Zac v1 (.cells #[.int .i64 0,.slice none 0 0] 105);obtain⟨v2,L⟩:∃y:World,y=v1.alloc (.cells #[.int .i64 0,.slice none 0 0] 105):=⟨_,rfl⟩;rw[←L]at r D⊢;have A:=E.trans (D.mono E.size);have hx:=r.lt;have f:=f.kept D;refine c.out _ _ (A) fun F=>?_
    clear c K
    try simp only[sx]
    repeat(refine Zq ?_;simp only[sx])
    clear L;refine Zd fun K c=>?_
    try simp only[sy]
    go_simp;refine(Zdn n.nx n.me _ n.txs _ (rtx.mono (Zaa A)) small).mono ?_;rintro e v3 ⟨d1,d2,rfl,m,r1,r2⟩;rw[hp.out,hn.out,hq.out,hE.out];rw[hg.out]at r1;rw[hc.out]at r2;obtain⟨A1,c1,rfl,h4⟩:=id r1;obtain⟨A2,c2,rfl,Y⟩:=id r2;clear h4 Y;have J:=A.trans (m.mono A.size);have g3:=m.size;have f:=f.kept m;have r:=r.kept m;have ex:Ext v2.heap.size v3 v3:=Ext.refl _ _;refine c.out _ _ (J) fun F=>?_
    clear c K
    try simp only[sx]
    repeat(refine Zq ?_;simp only[sx])
    refine Zd fun K c=>?_
    try simp only[sy]
    refine Zh 2 r ?_;intro v4 C I;have f:=f.grown I (by intro e;injection e;omega);have ex:=ex.store I (by first|(left;omega)|(right;omega));have G:Below w.heap.size w v4:=Zab J J.size I (by intro k e;injection e;have:=j.size;omega);refine c.out _ _ (G) fun F=>?_
    clear c K
    try simp only[sx]
    repeat(refine Zq ?_;simp only[sx])
    refine Zd fun K c=>?_
    try simp only[sy]
    refine Zh 3 f ?_;intro v5 M H;have C:=C.grown H (by intro e;injection e;omega);have ex:=ex.store H (by first|(left;omega)|(right;omega));have N:Below w.heap.size w v5:=Zab G G.size H (by intro k e;injection e;have:=j.size;omega);refine c.out _ _ (N) fun F=>?_
    clear c K
    try simp only[sx]
    repeat(refine Zq ?_;simp only[sx])
    refine Zai ?_;go_wp2_with fail;go_meet;have P:w.heap.size≤v1.heap.size:=by have:=j.size;omega
    have O:w.heap.size≤W3.heap.size:=by have:=j.size;omega
    exact⟨_,_,_,A1,c1,A2,c2,rfl,rfl,rfl,P,O,N,C,M,r1.mono (ex.hide hl (by have:=j.size;omega)),r2.mono (ex.hide hl (by have:=j.size;omega)),rfl⟩
 case rest =>
  obtain⟨gA,gB,e,A1,c1,A2,c2,rfl,rfl,rfl,P,O,hy,C,M,r1,r2,he⟩:=hcut;obtain⟨W,hW⟩:∃W:World,W=wc:=⟨_,rfl⟩;subst hW;have l1:=Zam hl hy;have N1:=hN.below hl hy;have v1:=Zaf hl hy;have T1:=hT.mono v1;have F1:NFr i tb g off o w o W:=(NFr.refl hl).below hy;have nA:=hl.none gA P;have nB:=hl.none gB O;obtain⟨b,hb⟩:∃b:Bat,Hid (b=⟨AU,NU,TX⟩):=⟨_,rfl⟩;have e1:Hid (AU=b.author):=by show _=_;rw[hb.out]
  have e2:Hid (NU=b.number):=by show _=_;rw[hb.out]
  have e3:Hid (TX=b.txs):=by show _=_;rw[hb.out]
  rw[e1.out,e2.out,e3.out]at M;rw[e3.out]at r2 g1;rw[←hb.out,←he.out]at hv;clear s0 s2 s3 rtx hN hT small e1 e2 e3 hb HB hE hp hg hn hq hc he;go_upto_region 1 with fail
  go_cut [31] (fun u w'=>∃B o',u=.bool B∧NFr i tb g off o w o' w'∧NodeAt o' w' i tb g off (if e=0 then(store n b true).1 else n)∧SealW n b e B∧o' gA=none∧o' gB=none∧Blk w' gA 105 #[.int .i64 NX,.slice A1 RS.length c1]∧Blk w' gB 82 #[.int .i64 b.author,.int .i64 b.number,.slice A2 b.txs.length c2]∧VLe (Zas o W) (Zas o' w'))
  case first =>
   have p0:=M.cell 0;have p1:=M.cell 1;have p2:=M.cell 2;simp at p0 p1 p2
   by_cases hz:e=0
   rotate_left
   ·have sr:(e==0)=false:=by simpa using hz
    have Hz:=Zb hz;clear hz;go_wp2_with fail;go_meet;exact⟨false,o,rfl,F1,by rw[if_neg Hz.out];exact N1,⟨⟨fun h=>(by cases h),fun h=>absurd h.1 Hz.out⟩⟩,nA,nB,C,M,fun a v h=>h⟩
   subst hz;obtain⟨QS,g4⟩:∃q,Hid ((store n b true).2=q):=⟨_,rfl⟩;go_wp2_with fail;refine(Zk6 i tb g off n b true _ o W l1 hi N1 T1 r2 g1.out.2 (by rw[HF.out.dd];exact HF.out.bats) HF.out.bats).mono ?_;rintro e w2 ⟨rfl,o2,F2,N2⟩;rw[g4.out];have nA2:o2 gA=none:=((F2.fr.keep gA C.lt (fun t ht=>by rw[nA]at ht;cases ht)).1).trans nA;have nB2:o2 gB=none:=((F2.fr.keep gB M.lt (fun t ht=>by rw[nB]at ht;cases ht)).1).trans nB;have U:=Za3 C F2.fr nA;have Q:=Za3 M F2.fr nB;have v2:=F2.fr.view;have F12:=F1.trans F2;have l2:=F2.fr.lim;cases QS
   rotate_left
   ·have Hr:SealW n b 0 true:=⟨⟨fun _=>⟨rfl,.inl g4.out⟩,fun _=>rfl⟩⟩;clear g4;go_wp2_with fail;go_meet;exact⟨true,o2,rfl,F12,N2,Hr,nA2,nB2,U,Q,v2⟩
   obtain⟨QH,gx⟩:∃q,Hid (has (store n b true).1 b=q):=⟨_,rfl⟩;have Hr:SealW n b 0 QH:=⟨by rw[gx.out,g4.out];simp⟩;have y0:=Q.cell 0;have y1:=Q.cell 1;have y2:=Q.cell 2;simp at y0 y1 y2;clear g4 p0 p1 p2;go_wp2_with fail;refine(has_any i tb g off _ b _ o2 w2 N2 ((r2.mono v2).mono (Zah _ _)) (HF.out.store b true).bats).mono ?_;rintro e w3 ⟨rfl,m⟩;rw[gx.out];have N3:=N2.below l2 m;have s6:=U.kept m;have h8:=Q.kept m;have F13:=F12.below m;have v3:=v2.trans (Zaf l2 m);clear y0 y1 y2;go_wp2_with fail;go_meet;exact⟨QH,o2,rfl,F13,N3,Hr,nA2,nB2,s6,h8,v3⟩
  case rest =>
   obtain⟨B,o1,rfl,F2,N2,hB,nA2,nB2,U,Q,v2⟩:=hcut;obtain⟨W2,sh⟩:∃W2:World,W2=wc:=⟨_,rfl⟩;subst sh;have l2:=F2.fr.lim;have r12:=r1.mono v2;have r22:=r2.mono v2;have T2:=T1.mono v2;clear N1 F1 T1 l1 v1 nA nB C M r1 r2 hy P O;go_upto_if 31 with fail
   go_cut [32] (fun _ w'=>∃o',NFr i tb g off o w o' w'∧NodeAt o' w' i tb g off (work1 n)∧Tabs (Zas o' w'))
   case first =>
    cases B
    ·have ha:NodeAt o1 W2 i tb g off (work1 n):=by
      rw[hv.out];have:=mt hB.iff.2 (by simp);rw[if_neg this];exact N2
     clear N2 hB hv;go_wp2_with fail;go_meet;exact⟨o1,F2,ha,T2⟩
    ·obtain⟨hz,gy⟩:=hB.iff.1 rfl
     have gq:Hid (work1 n=tell {(store n b true).1 with nx:=NX,txs:=RS } (batM b)):=by
      show _=_;rw[hv.out,if_pos ⟨hz,gy⟩]
     rw[if_pos hz]at N2;have f1:=HF.out.store b true;clear hv hz gy hB;obtain⟨n1,hh⟩:∃n1,Hid ((store n b true).1=n1):=⟨_,rfl⟩;rw[hh.out]at N2 gq f1;have S:=Zb f1;clear f1 hh;obtain⟨hw,⟨ytx,yba,ydi,yta,yda,yow,ymi,yvo,ytp,you⟩,S1,R1⟩:=id N2;have q0:=U.cell 0;have q1:=U.cell 1;simp at q0 q1;clear N2;go_wp2_with (refine Sec.store S1 (i:=2) [.int .i64 NX,.slice A1 RS.length c1] (show 2+2≤15 by decide) rfl rfl rfl rfl (by kernel_rfl) rfl rfl ?_);intro w3 S3 gm h3;have f3:=Zap l2 gm hw;have R3:=R1.fr f3 (fun k e=>by injection e;omega);have F3:=F2.store hw gm h3 (show 2+2≤15 by decide);have S3:=S3.putPool (xs:=RS);have N3:NodeAt o1 w3 i tb g off {n1 with nx:=NX,txs:=RS }:=⟨hw,_,S3,R3.setTx (r12.mono f3.view) g1.out.1⟩;have h8:=Za3 Q f3 nB2;have r23:=r22.mono f3.view;have l3:=f3.lim;have p0:=h8.cell 0;have p1:=h8.cell 1;have p2:=h8.cell 2;simp at p0 p1 p2;have T3:=T2.mono f3.view;clear S3 R3 S1 R1 q0 q1 F2 gm h3 f3;go_wp2_with fail;refine(Zid i tb g off _ (batM b) _ _ _ _ _ _ _ o1 w3 l3 hi N3 (Zko r23) g1.out.2 S.out.out).mono ?_;rintro e w4 ⟨rfl,o4,F34,N4⟩;rw[←gq.out]at N4;have F4:=F3.trans F34;have T4:=T3.mono F34.fr.view;go_wp2_with fail;go_meet;exact⟨o4,F4,N4,T4⟩
   case rest =>
    obtain⟨o2,F3,N3,T3⟩:=hcut;obtain⟨W3,sd⟩:∃W3:World,W3=wc:=⟨_,rfl⟩;subst sd;have l3:=F3.fr.lim;obtain⟨n1,hh⟩:∃n1,Hid (work1 n=n1):=⟨_,rfl⟩;have g9:Hid (QR=work3 (work2 n1 (rndV n1.dag)) (rndV n1.dag)):=by show _=_;rw[←s4.out];unfold work;rw[hh.out]
    have f1:=HF.out.work1;rw[hh.out]at N3 f1;have gb:Hid (n1.me=n.me):=by show _=_;rw[←hh.out];exact Zy5 n
    have gd:Hid (n1.turn=n.turn):=by show _=_;rw[←hh.out];exact Zt6 n
    have S:=Zb f1;have h0:=Zuq n1.dag;clear F2 N2 T2 hB nA2 nB2 U Q v2 l2 r12 r22 hv g1 hh f1;obtain⟨hw,⟨ytx,yba,ydi,yta,yda,yow,ymi,yvo,ytp,you⟩,S1,R1⟩:=id N3;have s7:=S1.nd7;have s8:=S1.nd8;simp only at s7 s8;have rda:RCrts W3.cell? yda n1.dag:=R1.da.mono RCrt.mono (Zah _ _);obtain⟨daA,dac,gl,_⟩:=id rda;have gl:yda=.slice daA n1.dag.length dac:=gl;subst gl;have row:=R1.ow;simp only at row;clear S1 R1 hw;go_wp2_with fail;refine(Zka _ n1.dag W3 rda (T3.mono (Zah _ _))).mono ?_;rintro e W4 ⟨rfl,hm⟩;obtain⟨rv,sg⟩:∃rv,Hid (rndV n1.dag=rv):=⟨_,rfl⟩;have N4:=N3.below l3 hm;have T4:=T3.mono (Zaf l3 hm);have F4:=F3.below hm;have l4:=Zam l3 hm;have s8':=Zaa hm _ _ s8;have row4:=row.mono (Zaf l3 hm);rw[sg.out]at h0 g9⊢;clear rda s7 s8 row N3 T3 F3 l3 hm
    go_upto_block 0 with fail
    go_cut [48] (fun _ w'=>∃o',NFr i tb g off o w o' w'∧NodeAt o' w' i tb g off (work2 n1 rv))
    case first =>
     obtain⟨OW,hk⟩:∃x,Hid (n1.own=x):=⟨_,rfl⟩;rw[hk.out]at row4;cases OW with
     |none =>
      have row4:yow=.pointer none:=row4;subst row4;have L:Hid (work2 n1 rv=propose n1 rv):=by show _=_;unfold work2;rw[hk.out]
      clear hk;go_wp2_with fail;refine(Zlm i tb g off n1 rv o2 W4 l4 hi N4 T4 h0.1 (by have:=h0.2;omega) S.out.out S.out.table (by rw[S.out.dd];exact S.out.bats) S.out.dd).mono ?_;rintro e w5 ⟨rfl,o5,F5,N5⟩;rw[←L.out]at N5;go_wp2_with fail;go_meet;exact⟨o5,F4.trans F5,N5⟩
     |some x =>
      obtain⟨ob,ovb,ovp,g2,c0,c1,c2,c3,rbX,rpX⟩:=row4;have g2:yow=.pointer (some ⟨ob,0,none⟩):=g2;subst g2;have c1':=Zah _ _ _ _ c1;clear c0 c1 c2 c3 rbX rpX
      by_cases gp:x.round<rv
      ·have L:Hid (work2 n1 rv=propose n1 rv):=by show _=_;unfold work2;rw[hk.out];simp[gp]
       clear hk;go_wp2_with fail;refine(Zlm i tb g off n1 rv o2 W4 l4 hi N4 T4 h0.1 (by have:=h0.2;omega) S.out.out S.out.table (by rw[S.out.dd];exact S.out.bats) S.out.dd).mono ?_;rintro e w5 ⟨rfl,o5,F5,N5⟩;rw[←L.out]at N5;go_wp2_with fail;go_meet;exact⟨o5,F4.trans F5,N5⟩
      ·have L:Hid (work2 n1 rv=if Zd8 n1 n1.me x.round=false then again n1 else n1):=by show _=_;unfold work2;rw[hk.out];simp[gp]
       obtain⟨_,v5,S5,_⟩:=id N4;have s0:=S5.nd0;clear S5;go_upto_region 7 with fail;refine Zr [] (.q 0 (.q 1 (.q 2 (.q 3 (.q 4 (.q 5 (.q 6 (.q 7 (.q 8 (.q 9 (.q 10 (.q 11 (.l 12 (.q 13 (.q 14 .nil))))))))))))))) fun V1 g5=>?_
       repeat((first|refine pq (h:=⟨_,fun w' F=>by(have z0:=Zaa F _ _ s0;have z1:=Zaa F _ _ c1';have z2:=Zaa F _ _ s8';go_simp;exact rfl),?_⟩)|refine Zq ?_);simp only[sx])
       refine Zd fun K c=>?_
       try simp only[sy]
       go_simp;refine(Zeo i tb g off n1 n1.me x.round o2 V1 (N4.below l4 g5)).mono ?_;rintro e V2 ⟨rfl,D⟩;have g7:=g5.trans (D.mono g5.size);obtain⟨QC,gi⟩:∃q,Hid (Zd8 n1 n1.me x.round=q):=⟨_,rfl⟩;rw[gi.out];refine c.out _ _ (g7) fun F=>?_
       clear c K
       try simp only[sx]
       repeat(refine Zq ?_;simp only[sx])
       refine Zai ?_;have N5:=N4.below l4 g7;have F5:=F4.below g7;have l5:=Zam l4 g7;rw[gi.out]at L;clear s0 c1' s8' gi;cases QC
       rotate_left
       ·have ha:NodeAt o2 V2 i tb g off (work2 n1 rv):=by rw[L.out];exact N5
        clear L N5;go_wp2_with fail;go_meet;exact⟨o2,F5,ha⟩
       ·go_wp2_with fail;refine(Zyz i tb g off n1 x o2 V2 l5 hi N5 hk.out (by have:=S.out.voters;omega) S.out.out (by rw[S.out.dd];exact S.out.bats) (by rw[S.out.dd];exact Za _) S.out.bats).mono ?_
        rintro e w5 ⟨rfl,o5,F6,N6⟩;have ha:NodeAt o5 w5 i tb g off (work2 n1 rv):=by rw[L.out];exact N6
        clear L N6;go_wp2_with fail;go_meet;exact⟨o5,F5.trans F6,ha⟩
    case rest =>
     obtain⟨o5,F5,N5⟩:=hcut;obtain⟨W5,s9⟩:∃W5:World,W5=wc:=⟨_,rfl⟩;subst s9;have l5:=F5.fr.lim;obtain⟨n2,g6⟩:∃n2,Hid (work2 n1 rv=n2):=⟨_,rfl⟩;rw[g6.out]at N5 g9;have kd:=kd_work2 n1 rv;rw[g6.out]at kd;have ga:=Zy3 n1 rv;rw[g6.out]at ga;have G:0≤n2.turn∧n2.turn≤3:=by rw[ga.2,gd.out];exact gw
     have ss:0≤n2.me∧n2.me≤3:=by rw[ga.1,gb.out];exact s5
     have gr:Hid (n2.digs.length≤800):=by show _≤_;rw[kd.digs,S.out.dd];exact S.out.bats
     have s1:Hid (n2.out.length≤400):=kd.out S.out.out;have hr:Hid (QR=send {n2 with turn:=Zgj n2.me n2.turn } (Zgj n2.me n2.turn) (wntM (wanted n2 rv))):=by show _=_;rw[g9.out];rfl
     clear kd ga g6 g9 N4 T4 F4 l4 row4 s8' S gb gd s5 gw;obtain⟨h7,⟨xtx,xba,xdi,xta,xda,xow,xmi,xvo,xtp,xou⟩,S5,R5⟩:=id N5;have s0:=S5.nd0;have s14:=S5.nd14;obtain⟨T1,E⟩:∃x,Hid ((n2.turn+1)%4=x):=⟨_,rfl⟩;have sn:0≤T1∧T1≤3:=by rw[←E.out];omega
     have m1:Int.tmod (n2.turn+1) 4=T1:=by rw[←E.out,Int.tmod_eq_emod_of_nonneg (by omega)]
     obtain⟨T2,A⟩:∃x,Hid ((T1+1)%4=x):=⟨_,rfl⟩;have gu:0≤T2∧T2≤3:=by rw[←A.out];omega
     have m2:Int.tmod (T1+1) 4=T2:=by rw[←A.out,Int.tmod_eq_emod_of_nonneg (by omega)]
     have g8:Hid (Zgj n2.me n2.turn=if T1=n2.me then T2 else T1):=by show _=_;unfold Zgj;rw[E.out,A.out]
     go_upto_region 9 with fail;go_wp2_with (refine Sec.store S5 (i:=14) [.int .i64 T1] (show 14+1≤15 by decide) rfl rfl rfl rfl (by kernel_rfl) rfl rfl ?_)
     intro W6 S6 gg h6;have f6:=Zap l5 gg h7;have R6:=(R5.fr f6 (fun k e=>by injection e;omega)).setTurn T1;have F6:=F5.store h7 gg h6 (show 14+1≤15 by decide);have S6:=S6.putTurn;have l6:=f6.lim;have t0:=S6.nd0;have t14:=S6.nd14;simp only at t0 t14;clear S5 R5 F5 N5 l5 s0 s14 gg h6 f6;go_upto_region 10 with fail
     by_cases ht:T1=n2.me
     rotate_left
     ·have sf:(T1==n2.me)=false:=by simpa using ht
      have N6':NodeAt o5 W6 i tb g off {n2 with turn:=T1 }:=⟨h7,_,S6,R6⟩;have hr:Hid (QR=send {n2 with turn:=T1 } T1 (wntM (wanted n2 rv))):=by show _=_;rw[hr.out,g8.out,if_neg ht]
      clear g8 ht S6 R6 m1 m2 gu E A h7;refine Zr [] (.q 0 (.q 1 (.q 2 (.q 3 (.q 4 (.q 5 (.q 6 (.q 7 (.q 8 .nil))))))))) fun W7 X=>?_
      repeat((first|refine pq (h:=⟨_,fun w' F=>by(have z0:=Zaa F _ _ t0;have z1:=Zaa F _ _ t14;go_simp;exact rfl),?_⟩)|refine Zq ?_);simp only[sx])
      refine Zai ?_;have N9:=N6'.below l6 X;have F9:=F6.below X;have l9:=Zam l6 X;have t14:=Zaa X _ _ t14;obtain⟨W9,sc⟩:∃x:World,x=W7:=⟨_,rfl⟩;subst sc;clear N6' F6 l6 t0;go_upto_region 12 with fail;refine Zt (fun w'=>Below W9.heap.size W9 w') (fun w'=>w'.cell? ⟨g,off+14,none⟩=some (.int .i64 T1)) [] (.q 0 (.q 1 (.q 2 (.q 3 (.q 4 (.q 5 (.q 6 (.l 7 (.q 8 (.l 9 .nil)))))))))) ?_ ?_
      ·exact⟨Zad _,Zaa (Zad _) _ _ t14⟩
      intro V1 V g5
      repeat((first|refine pq (h:=⟨_,fun w' F=>by(have z1:=F;go_simp;exact rfl),?_⟩)|refine Zq ?_);simp only[sx])
      have NV:=N9.below l9 V;have FV:=F9.below V;have lV:=Zam l9 V;refine Zd fun K c=>?_
      try simp only[sy]
      go_simp;refine(Zm6 i tb g off _ rv o5 V1 lV NV h0.1 (by have:=h0.2;omega) gr.out).mono ?_;rintro e V2 ⟨rfl,Z⟩;have NV2:=NV.below lV Z;have FV2:=FV.below Z;have lV2:=Zam lV Z;have t142:=Zaa Z _ _ (Zaa V _ _ t14);refine c.out _ _ (t142) fun F=>?_
      clear c K
      try simp only[sx]
      repeat(refine Zq ?_;simp only[sx])
      refine Zd fun K c=>?_
      try simp only[sy]
      go_simp;refine(Zfa i tb g off _ T1 (wntM _) _ _ _ _ _ _ _ o5 V2 lV2 hi NV2 (Zta _ _) (fun s hs=>by cases hs) s1.out).mono ?_;rintro e V3 ⟨rfl,o6,F6,N6⟩
      have t143:V3.cell? ⟨g,off+14,none⟩=some (.int .i64 T1):=by
       obtain⟨_,v6,S6,_⟩:=id N6;have:=S6.nd14;rw[(Zer _ _ _).2.2.2.2.2.1]at this;exact this
      refine c.out _ _ (t143) fun F=>?_
      clear c K
      try simp only[sx]
      repeat(refine Zq ?_;simp only[sx])
      refine Zai ?_;go_wp2;go_end0;exact⟨rfl,o6,FV2.trans F6,by rw[hr.out];exact N6⟩
     have sf:(T1==n2.me)=true:=by simpa using ht
     have hr:Hid (QR=send {n2 with turn:=T2 } T2 (wntM (wanted n2 rv))):=by show _=_;rw[hr.out,g8.out,if_pos ht]
     clear g8 ht m1 E A;refine Zr [] (.q 0 (.q 1 (.q 2 (.q 3 (.q 4 (.q 5 (.q 6 (.q 7 (.q 8 .nil))))))))) fun W7 X=>?_
     repeat((first|refine pq (h:=⟨_,fun w' F=>by(have z0:=Zaa F _ _ t0;have z1:=Zaa F _ _ t14;go_simp;exact rfl),?_⟩)|refine Zq ?_);simp only[sx])
     refine Zai ?_;have f7:=Fr.of_below (T:=fun _=>False) l6 X;have S7:=S6.fr f7 h7 (fun h=>h);have R7:=R6.fr f7 (fun _ h=>h);have F7:=F6.below X;have l7:=f7.lim;have t14:=Zaa X _ _ t14;clear S6 R6 F6 l6 t0 f7 X;go_wp2_with (refine Sec.store S7 (i:=14) [.int .i64 T2] (show 14+1≤15 by decide) rfl rfl rfl rfl (by kernel_rfl) rfl rfl ?_);intro W9 S9 gj h9;have f9:=Zap l7 gj h7;have R9:=(R7.fr f9 (fun k e=>by injection e;omega)).setTurn T2;have F9:=F7.store h7 gj h9 (show 14+1≤15 by decide);have S9:=S9.putTurn;have l9:=f9.lim;have N9:NodeAt o5 W9 i tb g off {n2 with turn:=T2 }:=⟨h7,_,S9,R9⟩;have t14:=S9.nd14;simp only at t14;clear S7 R7 F7 l7 gj h9 f9 S9 R9 m2;go_upto_region 12 with fail;refine Zt (fun w'=>Below W9.heap.size W9 w') (fun w'=>w'.cell? ⟨g,off+14,none⟩=some (.int .i64 T2)) [] (.q 0 (.q 1 (.q 2 (.q 3 (.q 4 (.q 5 (.q 6 (.l 7 (.q 8 (.l 9 .nil)))))))))) ?_ ?_
     ·exact⟨Zad _,Zaa (Zad _) _ _ t14⟩
     intro V1 V g5
     repeat((first|refine pq (h:=⟨_,fun w' F=>by(have z1:=F;go_simp;exact rfl),?_⟩)|refine Zq ?_);simp only[sx])
     have NV:=N9.below l9 V;have FV:=F9.below V;have lV:=Zam l9 V;refine Zd fun K c=>?_
     try simp only[sy]
     go_simp;refine(Zm6 i tb g off _ rv o5 V1 lV NV h0.1 (by have:=h0.2;omega) gr.out).mono ?_;rintro e V2 ⟨rfl,Z⟩;have NV2:=NV.below lV Z;have FV2:=FV.below Z;have lV2:=Zam lV Z;have t142:=Zaa Z _ _ (Zaa V _ _ t14);refine c.out _ _ (t142) fun F=>?_
     clear c K
     try simp only[sx]
     repeat(refine Zq ?_;simp only[sx])
     refine Zd fun K c=>?_
     try simp only[sy]
     go_simp;refine(Zfa i tb g off _ T2 (wntM _) _ _ _ _ _ _ _ o5 V2 lV2 hi NV2 (Zta _ _) (fun s hs=>by cases hs) s1.out).mono ?_;rintro e V3 ⟨rfl,o6,F6,N6⟩
     have t143:V3.cell? ⟨g,off+14,none⟩=some (.int .i64 T2):=by
      obtain⟨_,v6,S6,_⟩:=id N6;have:=S6.nd14;rw[(Zer _ _ _).2.2.2.2.2.1]at this;exact this
     refine c.out _ _ (t143) fun F=>?_
     clear c K
     try simp only[sx]
     repeat(refine Zq ?_;simp only[sx])
     refine Zai ?_;go_wp2;go_end0;exact⟨rfl,o6,FV2.trans F6,by rw[hr.out];exact N6⟩
abbrev All:Nat×Nat→Prop:=fun _=>True
theorem All.trans{o o' o2:Own}{w2:World}(h:Fr All o w o' w')(k:Fr All o' w' o2 w2):Fr All o w o2 w2:=h.trans k (fun _ _=>.inl trivial)
theorem Fr.all{T:Nat×Nat→Prop}{o o':Own}(h:Fr T o w o' w'):Fr All o w o' w':=h.mono (fun _ _=>trivial)
structure FtAt (o:Own) (w:World) (gf:Nat) (f:Ft):Prop where
 lim:Lim o w
 len:f.nodes.length=4
 sg:SgAt o w gf f.rogue f.signs
 node:∀i:Nat,i<4→NodeAt o w i 0 gf (1+i*15) (Zav f i)
 away:∃v,Sec w gf 62 [v]∧Row o (5,0) 19 RMsgZ 90 w v f.away
 codes:∃v,Sec w gf 63 [v]∧Row o (6,0) 1 RI 26 w v f.codes
section
variable {o o':Own} {w w':World} {gf:Nat} {f:Ft} {n:Nd} {i:Nat}
theorem FtAt.mark(h:FtAt o w gf f):o gf=some (8,0):=h.sg.mark
theorem FtAt.fr{T:Nat×Nat→Prop}(h:FtAt o w gf f)(k:Fr T o w o' w')(hT:∀j m,j<7→j≠4→¬T (j,m))(a:¬T (8,0)):FtAt o' w' gf f:=by
 obtain⟨va,a1,a2⟩:=h.away;obtain⟨vc,c1,c2⟩:=h.codes;exact⟨k.lim,h.len,h.sg.fr k a,fun i hi=>(h.node i hi).fr k (fun m=>hT i m (by omega) (by omega)) a,⟨va,a1.fr k h.mark a,a2.fr RMsgZ.mono k (hT _ _ (by decide) (by decide))⟩,⟨vc,c1.fr k h.mark a,c2.fr RI.mono k (hT _ _ (by decide) (by decide))⟩⟩
theorem FtAt.below(h:FtAt o w gf f)(a:Below w.heap.size w w'):FtAt o w' gf f:=h.fr (.of_below (T:=fun _=>False) h.lim a) (fun _ _ _ _ h=>h) (fun h=>h)
theorem Zgc(a:f.nodes.length=4)(hi:i<4)(b:k<4)(n:Nd):Zav (Za4 f i n) k=if k=i then n else Zav f k:=by
 have:=Zes a (i:=(i:Int)) (k:=(k:Int)) (by omega) (by omega) n;rw[this]
 by_cases e:k=i
 ·rw[if_pos e,if_pos (by omega)]
 ·rw[if_neg e,if_neg (by omega)]
theorem Zro(f:Ft)(i:Int)(n:Nd):(Za4 f i n).nodes.length=f.nodes.length:=by simp[Za4]
theorem FtAt.step(h:FtAt o w gf f)(hi:i<4)(k:NFr i 0 gf (1+i*15) o w o' w')(hn:NodeAt o' w' i 0 gf (1+i*15) n):FtAt o' w' gf (Za4 f i n):=by
 obtain⟨va,a1,a2⟩:=h.away;obtain⟨vc,c1,c2⟩:=h.codes;have b:=hn.mark;refine⟨k.fr.lim,by rw[Zro];exact h.len,h.sg.node k b (by omega) (by omega),fun j c=>?_,⟨va,a1.only k.only (.inr (by omega)),a2.fr RMsgZ.mono k.fr (by simp;omega)⟩,⟨vc,c1.only k.only (.inr (by omega)),c2.fr RI.mono k.fr (by simp;omega)⟩⟩;rw[Zgc h.len hi c];split
 ·rename_i e;subst e;exact hn
 ·rename_i e;obtain⟨_,v,S1,R1⟩:=h.node j c;refine⟨b,v,S1.only k.only ?_,R1.fr k.fr (fun q=>?_)⟩
  ·rw[Zjl];omega
  ·intro a
   rcases a with a|a
   ·injection a with a _;omega
   ·exact e a
theorem FtAt.congr{g:Ft}(h:FtAt o w gf f)(i:g.rogue=f.rogue)(m:g.nodes=f.nodes)(l:g.signs=f.signs)(j:g.away=f.away)(k:g.codes=f.codes):FtAt o w gf g:=by
 obtain⟨a,b,c,d,e⟩:=f;obtain⟨a',b',c',d',e'⟩:=g;simp only at i m l j k;subst i m l j k;exact h
theorem FtAt.putSigns(h:FtAt o w gf f){l:List Sign}(g:Sec w' gf 61 [v])(e:w.grownBy w' (some gf))(a:Only w w' gf 61 1)(r:RSigns (Zas o w) v l):FtAt o w' gf {f with signs:=l }:=by
 obtain⟨va,a1,a2⟩:=h.away;obtain⟨vc,c1,c2⟩:=h.codes;have k:=Zap h.lim e h.mark;refine⟨k.lim,h.len,⟨h.mark,h.sg.rogue.only a (.inl (by simp)),v,g,r.mono RSign.mono k.view⟩,fun j d=>?_,⟨va,a1.only a (.inr (by omega)),a2.fr RMsgZ.mono k (by simp)⟩,⟨vc,c1.only a (.inr (by omega)),c2.fr RI.mono k (by simp)⟩⟩;obtain⟨b,v',S1,R1⟩:=h.node j d;exact⟨b,v',S1.only a (.inl (by rw[Zjl];omega)),R1.fr k (fun q c=>by injection c;omega)⟩
theorem FtAt.putAway(h:FtAt o w gf f){l:List Msg}(m:Sec w' gf 62 [v])(g:w.grownBy w' (some gf))(a:Only w w' gf 62 1)(r:Row o (5,0) 19 RMsgZ 90 w v l):FtAt o w' gf {f with away:=l }:=by
 obtain⟨vc,c1,c2⟩:=h.codes;have k:=Zap h.lim g h.mark;obtain⟨_,c,vs,n,i⟩:=h.sg;refine⟨k.lim,h.len,⟨h.mark,c.only a (.inl (by simp)),vs,n.only a (.inl (by simp)),i.mono RSign.mono k.view⟩,fun j e=>?_,⟨v,m,r.fr RMsgZ.mono k (by simp)⟩,⟨vc,c1.only a (.inr (by omega)),c2.fr RI.mono k (by simp)⟩⟩;obtain⟨b,v',S1,R1⟩:=h.node j e;exact⟨b,v',S1.only a (.inl (by rw[Zjl];omega)),R1.fr k (fun q d=>by injection d;omega)⟩
theorem FtAt.awayRow(h:FtAt o w gf f)(k:Fr (fun t=>t=(5,0)) o w o' w'):SgAt o' w' gf f.rogue f.signs∧(∀i:Nat,i<4→NodeAt o' w' i 0 gf (1+i*15) (Zav f i))∧(∃v,Sec w' gf 63 [v]∧Row o' (6,0) 1 RI 26 w' v f.codes):=by
 obtain⟨vc,c1,c2⟩:=h.codes;exact⟨h.sg.fr k (by simp),fun i hi=>(h.node i hi).fr k (fun q a=>by injection a;omega) (by simp),vc,c1.fr k h.mark (by simp),c2.fr RI.mono k (by simp)⟩
theorem FtAt.newAway(h:FtAt o w gf f){w2:World}(k:Fr (fun t=>t=(5,0)) o w o' w'){l:List Msg}(r:Row o' (5,0) 19 RMsgZ 90 w' v l)(m:Sec w2 gf 62 [v])(g:w'.grownBy w2 (some gf))(b:Only w' w2 gf 62 1):FtAt o' w2 gf {f with away:=l }:=by
 obtain⟨s1,s2,vc,c1,c2⟩:=h.awayRow k;have a:=s1.mark;have k2:=Zap k.lim g a;obtain⟨_,c,vs,n,i⟩:=s1;refine⟨k2.lim,h.len,⟨a,c.only b (.inl (by simp)),vs,n.only b (.inl (by simp)),i.mono RSign.mono k2.view⟩,fun j e=>?_,⟨v,m,r.fr RMsgZ.mono k2 (by simp)⟩,⟨vc,c1.only b (.inr (by omega)),c2.fr RI.mono k2 (by simp)⟩⟩;obtain⟨a,v',S1,R1⟩:=s2 j e;exact⟨a,v',S1.only b (.inl (by rw[Zjl];omega)),R1.fr k2 (fun q d=>by injection d;omega)⟩
end
def remap(o:Own)(g:Nat×Nat→Nat×Nat):Own:=fun b=>(o b).map g
theorem Zg8(o:Own)(g:Nat×Nat→Nat×Nat)(w:World):Zas (remap o g) w=Zas o w:=by
 funext a
 unfold Zas remap;simp
theorem Lim.remap{o:Own}{w:World}{g:Nat×Nat→Nat×Nat}(h:Lim o w)(c:∀t k,g t=(7,k)→t=(7,k)):Lim (remap o g) w:=by
 refine⟨fun b d=>?_,fun b k a=>?_⟩
 ·unfold Fl.remap;rw[h.none b d];rfl
 ·unfold Fl.remap at a;cases ho:o b with
  |none=>rw[ho]at a;cases a
  |some t =>
   rw[ho]at a;injection a with a;have:=c t k a;subst this;exact h.seven b k ho
theorem Fr.remap{o:Own}{w:World}{g:Nat×Nat→Nat×Nat}(h:Lim o w)(c:∀t k,g t=(7,k)→t=(7,k)):Fr All o w (remap o g) w:=by
 refine⟨rfl,rfl,rfl,Za _,h.remap c,fun b d hn=>⟨?_,rfl⟩,fun b t d a _=>⟨g t,by unfold Fl.remap;rw[a];rfl,trivial⟩⟩;cases ho:o b with
 |none=>unfold Fl.remap;rw[ho];rfl
 |some t=>exact absurd trivial (hn t ho)
theorem Row.remap{α:Type}{sz:Nat}{R:View→List Value→α→Prop}{e:TypeId}{o:Own}{w:World}{v:Value}{xs:List α}{t:Nat×Nat}(h:Row o t sz R e w v xs)(g:Nat×Nat→Nat×Nat):Row (remap o g) (g t) sz R e w v xs:=by
 refine⟨?_,fun b c=>by unfold Fl.remap;rw[h.mark b c];rfl⟩;obtain⟨css,a,d,f⟩:=h.own;refine⟨css,a,d,fun i hi=>?_⟩;obtain⟨cs,q1,q2,q3⟩:=f i hi;exact⟨cs,q1,q2,by rw[Zg8];exact q3⟩
def moved(me:Nat)(t:Nat×Nat):Nat×Nat:=if t.1=4 then(me,t.2)else if t.1=me then(9,t.2)else t
theorem Zlp{me:Nat}(a:me<4):∀t k,moved me t=(7,k)→t=(7,k):=fun t k h=>by
 unfold moved at h
 split at h
 ·injection h with h _;omega
 ·split at h
  ·injection h with h _;omega
  ·exact h
theorem Zgd{me m:Nat}(a:j≠4)(b:j≠me):moved me (j,m)=(j,m):=by unfold moved;simp[a,b]
theorem NdR.moved{o:Own}{w:World}{n:Nd}{v:Vals}{me:Nat}(h:NdR o w 4 n v):NdR (remap o (moved me)) w me n v:=by
 have a:Zas (remap o (Fl.moved me)) w=Zas o w:=Zg8 _ _ _;exact⟨by rw[a];exact h.tx,h.small,h.ba.remap _,h.di.remap _,h.ta.remap _,by rw[a];exact h.da,by rw[a];exact h.ow,by rw[a];exact h.mi,h.vo.remap _,by rw[a];exact h.tp,h.ou.remap _⟩
theorem NdR.stays{o:Own}{v:Vals}{me:Nat}(b:j≠4)(c:j≠me)(h:NdR o w j n v):NdR (remap o (Fl.moved me)) w j n v:=by
 have a:Zas (remap o (Fl.moved me)) w=Zas o w:=Zg8 _ _ _;have e:∀m,Fl.moved me (j,m)=(j,m):=fun m=>Zgd b c
 refine⟨by rw[a];exact h.tx,h.small,?_,?_,?_,by rw[a];exact h.da,by rw[a];exact h.ow,by rw[a];exact h.mi,?_,by rw[a];exact h.tp,?_⟩
 ·rw[←e];exact h.ba.remap _
 ·rw[←e];exact h.di.remap _
 ·rw[←e];exact h.ta.remap _
 ·rw[←e];exact h.vo.remap _
 ·rw[←e];exact h.ou.remap _
theorem FtAt.replace{o:Own}{gf:Nat}{v:Vals}{me:Nat}(h:FtAt o w gf f)(d:me<4)(s:Sec w' gf (1+me*15) (ndC n v))(m:w.grownBy w' (some gf))(b:Only w w' gf (1+me*15) 15)(r:NdR o w 4 n v):FtAt (remap o (Fl.moved me)) w' gf (Za4 f me n):=by
 have k:=Zap h.lim m h.mark;have i:Zas (remap o (Fl.moved me)) w'=Zas o w':=Zg8 _ _ _
 have a:remap o (Fl.moved me) gf=some (8,0):=by
  unfold Fl.remap;rw[h.mark];simp only[Option.map_some];rw[Zgd (by decide) (by omega)]
 have e5:Fl.moved me (5,0)=(5,0):=Zgd (by decide) (by omega);have e6:Fl.moved me (6,0)=(6,0):=Zgd (by decide) (by omega);obtain⟨va,a1,a2⟩:=h.away;obtain⟨vc,c1,c2⟩:=h.codes;obtain⟨_,l,vs,t,p⟩:=h.sg;refine⟨k.lim.remap (Zlp d),by rw[Zro];exact h.len,⟨a,l.only b (.inl (by simp)),vs,t.only b (.inr (by omega)),by rw[i];exact p.mono RSign.mono k.view⟩,fun j g=>?_,⟨va,a1.only b (.inr (by omega)),?_⟩,⟨vc,c1.only b (.inr (by omega)),?_⟩⟩
 ·rw[Zgc h.len d g];split
  ·rename_i e;subst e;exact⟨a,v,s,(r.fr k (fun q c=>by injection c;omega)).moved⟩
  ·rename_i e;obtain⟨_,v',S1,R1⟩:=h.node j g;exact⟨a,v',S1.only b (by rw[Zjl];omega),NdR.stays (by omega) e (R1.fr k (fun q c=>by injection c;omega))⟩
 ·rw[←e5];exact(a2.fr RMsgZ.mono k (by simp)).remap _
 ·rw[←e6];exact(c2.fr RI.mono k (by simp)).remap _
end Fl
end Go.Proofs.YtbcpbnfojfiekaaGreatDoor
