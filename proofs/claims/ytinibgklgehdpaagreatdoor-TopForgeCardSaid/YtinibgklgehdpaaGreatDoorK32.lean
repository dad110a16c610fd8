/- A part of what the last text stands on. -/
import Derived.Test.YtinibgklgehdpaaGreatDoorK27
import Derived.Test.YtinibgklgehdpaaGreatDoorK28
import Derived.Test.YtinibgklgehdpaaGreatDoorK31
namespace Go.Proofs.YtinibgklgehdpaaGreatDoor
open Go.ChangeShapes Go.WideShapes Go.ChangeAt Go.RowKit Qa Qb Qc
set_option linter.all false
set_option maxHeartbeats 20000000
set_option maxRecDepth 100000
variable{w w':World}{g:Nat}
namespace Fl
def Ext(s:Nat)(w0 w:World):Prop:=VLe (View.from w0.cell? s) w.cell?
theorem Ext.refl(s:Nat)(w:World):Ext s w w:=View.from_le _ _
theorem Ext.below{s:Nat}{w0:World}(h:Ext s w0 w)(hb:Below w.heap.size w w'):Ext s w0 w':=h.trans (Zaa hb)
theorem Ext.store{s:Nat}{w0:World}(h:Ext s w0 w)(hg:w.grownBy w' (some g))(hs:g<s∨w0.heap.size≤g):Ext s w0 w':=fun a v e=>by
 have h1:=h a v e
 refine hg.cell h1 (fun e2=>?_)
 injection e2 with e2
 unfold View.from at e
 split at e
 ·cases e
 ·have:=World.block_lt_of_cell? w0 a e
  omega
theorem Ext.hide{s:Nat}{w0 w00:World}{o:Own}(h:Ext s w0 w)(hl:Lim o w00)(hs:w00.heap.size≤s):VLe (View.from w0.cell? s) (Zas o w):=fun a v e=>by
 have h1:=h a v e
 unfold Zas
 unfold View.from at e
 split at e
 ·cases e
 ·rw[hl.none a.block (by omega)]
  simpa using h1
theorem Zmh(n:Nd)(b:Bat)(w:Bool):(store n b w).1.turn=n.turn:=by
 unfold Fl.store put kept;split
 ·rfl
 ·split
  ·split<;>rfl
  ·rfl
theorem Zol(n:Nd)(m:Msg):(tell n m).turn=n.turn:=by
 have:∀(l:List Int) (n:Nd),(l.foldl (Zcm m) n).turn=n.turn:=by
  intro l
  induction l with
  |nil=>intro n;rfl
  |cons a l ih =>
   intro n;rw[List.foldl_cons,ih];unfold Zcm send
   split<;>(try split)<;>rfl
 exact this _ _
theorem Zwh(n:Nd):(work1 n).me=n.me:=by
 unfold work1;split
 ·rw[(Zka _ _).2.2.2.2];exact Zgq _ _ _
 ·split
  ·exact Zgq _ _ _
  ·rfl
theorem Zr8(n:Nd):(work1 n).turn=n.turn:=by
 unfold work1;split
 ·rw[Zol];exact Zmh _ _ _
 ·split
  ·exact Zmh _ _ _
  ·rfl
theorem Zwf(n:Nd)(r:Int):(work2 n r).me=n.me∧(work2 n r).turn=n.turn:=by
 have hp:(propose n r).me=n.me∧(propose n r).turn=n.turn:=by
  unfold propose;split
  ·exact⟨rfl,rfl⟩
  ·exact⟨(Zka _ _).2.2.2.2,Zol _ _⟩
 have hs:∀(n:Nd) (tw:Int) (m:Msg),(send n tw m).me=n.me∧(send n tw m).turn=n.turn:=fun n tw m=>⟨(Zeo n tw m).2.2.2.2.2.2,(Zeo n tw m).2.2.2.2.2.1⟩
 have hb:∀(ds:List (List UInt8)) (tw:Int) (n:Nd),(ds.foldl (sendB tw) n).me=n.me∧(ds.foldl (sendB tw) n).turn=n.turn:=by
  intro ds tw
  induction ds with
  |nil=>intro n;exact⟨rfl,rfl⟩
  |cons d ds ih =>
   intro n;rw[List.foldl_cons,(ih _).1,(ih _).2];unfold sendB;split
   ·split
    ·exact hs _ _ _
    ·exact⟨rfl,rfl⟩
   ·exact⟨rfl,rfl⟩
 have ha:∀(h:Hdr) (l:List Int) (n:Nd),(l.foldl (Zeg h) n).me=n.me∧(l.foldl (Zeg h) n).turn=n.turn:=by
  intro h l
  induction l with
  |nil=>intro n;exact⟨rfl,rfl⟩
  |cons a l ih =>
   intro n;rw[List.foldl_cons,(ih _).1,(ih _).2];unfold Zeg;split
   ·exact⟨rfl,rfl⟩
   ·rw[(hs _ _ _).1,(hs _ _ _).2];exact hb _ _ _
 unfold work2;split
 ·exact hp
 ·split
  ·exact hp
  ·split
   ·unfold again;split
    ·exact⟨rfl,rfl⟩
    ·exact ha _ _ _
   ·exact⟨rfl,rfl⟩
theorem Zrf(h:View)(r:Int):RMsg h (wntM r) (.slice none 0 0) (.slice none 0 0) (.slice none 0 0) (.slice none 0 0) (.slice none 0 0) (.slice none 0 0) (.slice none 0 0) :=
 ⟨RVec.nil _ _ _,RDigs.nil _,RDigs.nil _,RVec.nil _ _ _,RDigs.nil _,RDigs.nil _,RVec.nil _ _ _⟩
structure SealW (n:Nd) (b:Bat) (e:Int) (B:Bool):Prop where
 iff:B=true↔(e=0∧((store n b true).2=true∨has (store n b true).1 b=true))
theorem Zwe(i tb g off:Nat)(n:Nd)(o:Own)(w:World)(hl:Lim o w)(hi:i<5)(hN:NodeAt o w i tb g off n)(hT:Tabs (Zas o w))(hf:NFit n)(hme:0≤n.me∧n.me≤3)(htu:0≤n.turn∧n.turn≤3) :
 Calls Tryz.prog 114 #[.pointer (some ⟨g,off,none⟩)] w fun e w'=>e=.returned (.tuple #[])∧∃o',NFr i tb g off o w o' w'∧NodeAt o' w' i tb g off (work n):=by
 obtain⟨QR,hQR⟩:∃q,Hid (work n=q):=⟨_,rfl⟩;rw[hQR.out];have HF:=Lib.hid hf;obtain⟨QE,hE⟩:∃q,Hid (Zjo n.nx n.txs n.me=q):=⟨_,rfl⟩;obtain⟨NX,hNx⟩:∃q,Hid (Zg8 n.nx n.txs n.me=q):=⟨_,rfl⟩;obtain⟨RS,hRs⟩:∃q,Hid (Zdj n.nx n.txs n.me=q):=⟨_,rfl⟩;obtain⟨AU,hAu⟩:∃q,Hid (Zov n.nx n.txs n.me=q):=⟨_,rfl⟩;obtain⟨NU,hNu⟩:∃q,Hid (Zou n.nx n.txs n.me=q):=⟨_,rfl⟩;obtain⟨TX,hTx⟩:∃q,Hid (Zmm n.nx n.txs n.me=q):=⟨_,rfl⟩;have HB:Hid (Zh1 n=⟨AU,NU,TX⟩):=by show _=_;unfold Zh1;rw[hAu.out,hNu.out,hTx.out]
 have HW1:Hid (work1 n=if QE=0∧((store n ⟨AU,NU,TX⟩ true).2∨has (store n ⟨AU,NU,TX⟩ true).1 ⟨AU,NU,TX⟩)then tell {(store n ⟨AU,NU,TX⟩ true).1 with nx:=NX,txs:=RS } (batM ⟨AU,NU,TX⟩)else if QE=0 then(store n ⟨AU,NU,TX⟩ true).1 else n):=by
  show _=_;unfold work1;rw[hE.out,HB.out,hNx.out,hRs.out]
 obtain⟨hmk,⟨vtx,vba,vdi,vta,vda,vow,vmi,vvo,vtp,vou⟩,S0,R0⟩:=id hN;have s0:=S0.nd0;have s2:=S0.nd2;have s3:=S0.nd3;simp only at s0 s2 s3;have rtx:RTexts w.cell? vtx n.txs:=R0.tx.mono (Zag _ _);have small:=R0.small
 have Hsm:Hid ((∀s∈RS,s.size≤140737488355328)∧∀s∈TX,s.size≤140737488355328):=by
  refine⟨fun s hs=>?_,fun s hs=>?_⟩
  ·rw[←hRs.out]at hs;unfold Zdj at hs;split at hs
   ·cases hs
   ·exact small s (List.mem_of_mem_drop hs)
  ·rw[←hTx.out]at hs;unfold Zmm at hs;split at hs
   ·cases hs
   ·exact small s (List.mem_of_mem_take hs)
 obtain⟨txA,txc,htx,_⟩:=id rtx;have htx:vtx=.slice txA n.txs.length txc:=htx;subst htx;clear S0 R0 hmk hf
 go_enter Tryz.func114,Tryz.ntmps114
 go_upto_region 0 with fail
 go_cut [2,3,4] (fun p q z w'=>∃gA gB e A1 c1 A2 c2,p=.pointer (some ⟨gA,0,none⟩)∧q=.pointer (some ⟨gB,0,none⟩)∧z=.int .i64 e∧w.heap.size≤gA∧w.heap.size≤gB∧Below w.heap.size w w'∧Blk w' gA 110 #[.int .i64 NX,.slice A1 RS.length c1]∧Blk w' gB 53 #[.int .i64 AU,.int .i64 NU,.slice A2 TX.length c2]∧RTexts (Zas o w') (.slice A1 RS.length c1) RS∧RTexts (Zas o w') (.slice A2 TX.length c2) TX∧Hid (e=QE))
 case first =>
  refine Zm5 (fun w'=>Below w.heap.size w w') (fun w'=>Below w.heap.size w w') [17] (.q 0 (.q 1 (.q 2 (.q 3 (.q 4 (.q 5 (.q 6 (.q 7 (.alt3 8 (.q 9 (.q 10 (.q 11 (.q 12 (.alt 13 (.l 14 (.l 15 (.l 16 (.qc 17 .nil)))) 14 (.l 13 (.l 15 (.l 16 (.qc 17 .nil))))))))) 13 (.alt 8 (.q 9 (.q 10 (.q 11 (.q 12 (.l 14 (.l 15 (.l 16 (.qc 17 .nil)))))))) 14 (.l 8 (.q 9 (.q 10 (.q 11 (.q 12 (.l 15 (.l 16 (.qc 17 .nil))))))))) 14 (.alt 8 (.q 9 (.q 10 (.q 11 (.q 12 (.l 13 (.l 15 (.l 16 (.qc 17 .nil)))))))) 13 (.l 8 (.q 9 (.q 10 (.q 11 (.q 12 (.l 15 (.l 16 (.qc 17 .nil)))))))))))))))))) (by kernel_rfl) (by kernel_rfl) (fun _ _ d _ _ h=>by cases d<;>exact h) rfl (by kernel_rfl) ?_ ?_
  ·exact⟨Zad _,Zad _⟩
  intro W3 hS3 hS
  repeat(first
   |(refine plt_q (by assumption) rfl rfl ?_;apply Exists.intro;refine⟨fun w' hS=>?_,?_⟩;(· (have h1:=Zaa hS _ _ s0;have h2:=Zaa hS _ _ s2;have h3:=Zaa hS _ _ s3;go_simp;exact rfl));simp only[List.getElem_toArray,List.getElem_cons_zero,List.getElem_cons_succ,Act.put,List.setIfInBounds_toArray,List.set_cons_zero,List.set_cons_succ])
   |(refine plt_skip (by assumption) rfl rfl ?_;simp only[List.getElem_toArray,List.getElem_cons_zero,List.getElem_cons_succ,Act.put,List.setIfInBounds_toArray,List.set_cons_zero,List.set_cons_succ]))
  refine Zzd ?_ ?_ ?_
  ·skip
   refine Zd fun K hK=>?_
   try simp only[sy]
   go_simp;refine(Zdk n.nx n.me _ n.txs _ (rtx.mono (Zaa hS3)) small).mono ?_;rintro e v1 ⟨d1,d2,rfl,hb1,r1,r2⟩;rw[hNx.out,hAu.out,hNu.out,hE.out];rw[hRs.out]at r1;rw[hTx.out]at r2;obtain⟨A1,c1,rfl,hf1⟩:=id r1;obtain⟨A2,c2,rfl,hf2⟩:=id r2;clear hf1 hf2;have hT1:=hS3.trans (hb1.mono hS3.size);have hz1:=hb1.size;have ex:Ext W3.heap.size v1 v1:=Ext.refl _ _;refine hK.out _ _ (hT1) fun hS=>?_
   clear hK K
   try simp only[sx]
   repeat(refine Zq ?_;simp only[sx])
   refine Zcl ?_ ?_
   ·skip
    refine Zd fun K hK=>?_
    try simp only[sy]
    go_simp;have hnA:=Blk.new v1 110 #[.int .i64 0,.slice none 0 0];have hb2:=Zac v1 (.cells #[.int .i64 0,.slice none 0 0] 110);obtain⟨v2,hw2⟩:∃y:World,y=v1.alloc (.cells #[.int .i64 0,.slice none 0 0] 110):=⟨_,rfl⟩;rw[←hw2]at hnA hb2⊢;have hT2:=hT1.trans (hb2.mono hT1.size);have hz2:=hnA.lt;have ex:=ex.below hb2;refine hK.out _ _ (hT2) fun hS=>?_
    clear hK K
    try simp only[sx]
    repeat(refine Zq ?_;simp only[sx])
    clear hw2;refine Zd fun K hK=>?_
    try simp only[sy]
    go_simp;have hnB:=Blk.new v2 53 #[.int .i64 0,.int .i64 0,.slice none 0 0];have hb3:=Zac v2 (.cells #[.int .i64 0,.int .i64 0,.slice none 0 0] 53);obtain⟨v3,hw3⟩:∃y:World,y=v2.alloc (.cells #[.int .i64 0,.int .i64 0,.slice none 0 0] 53):=⟨_,rfl⟩;rw[←hw3]at hnB hb3⊢;have hT3:=hT2.trans (hb3.mono hT2.size);have hz3:=hnB.lt;have hnA:=hnA.kept hb3;have ex:=ex.below hb3;refine hK.out _ _ (hT3) fun hS=>?_
    clear hK K
    try simp only[sx]
    repeat(refine Zq ?_;simp only[sx])
    clear hw3;refine Zd fun K hK=>?_
    try simp only[sy]
    refine Zh 2 hnA ?_;intro v4 hPA hg4;have hnB:=hnB.grown hg4 (by intro e;injection e;omega);have ex:=ex.store hg4 (by first|(left;omega)|(right;omega));have hT4:Below w.heap.size w v4:=Zab hT3 hT3.size hg4 (by intro k e;injection e;have:=hS3.size;omega);refine hK.out _ _ (hT4) fun hS=>?_
    clear hK K
    try simp only[sx]
    repeat(refine Zq ?_;simp only[sx])
    refine Zd fun K hK=>?_
    try simp only[sy]
    refine Zh 3 hnB ?_;intro v5 hPB hg5;have hPA:=hPA.grown hg5 (by intro e;injection e;omega);have ex:=ex.store hg5 (by first|(left;omega)|(right;omega));have hT5:Below w.heap.size w v5:=Zab hT4 hT4.size hg5 (by intro k e;injection e;have:=hS3.size;omega);refine hK.out _ _ (hT5) fun hS=>?_
    clear hK K
    try simp only[sx]
    repeat(refine Zq ?_;simp only[sx])
    refine Zah ?_
    go_wp2_with fail
    go_meet;have hgA:w.heap.size≤v1.heap.size:=by have:=hS3.size;omega
    have hgB:w.heap.size≤v2.heap.size:=by have:=hS3.size;omega
    exact⟨_,_,_,A1,c1,A2,c2,rfl,rfl,rfl,hgA,hgB,hT5,hPA,hPB,r1.mono (ex.hide hl (by have:=hS3.size;omega)),r2.mono (ex.hide hl (by have:=hS3.size;omega)),rfl⟩
   ·skip
    refine Zd fun K hK=>?_
    try simp only[sy]
    go_simp;have hnB:=Blk.new v1 53 #[.int .i64 0,.int .i64 0,.slice none 0 0];have hb2:=Zac v1 (.cells #[.int .i64 0,.int .i64 0,.slice none 0 0] 53);obtain⟨v2,hw2⟩:∃y:World,y=v1.alloc (.cells #[.int .i64 0,.int .i64 0,.slice none 0 0] 53):=⟨_,rfl⟩;rw[←hw2]at hnB hb2⊢;have hT2:=hT1.trans (hb2.mono hT1.size);have hz2:=hnB.lt;have ex:=ex.below hb2;refine hK.out _ _ (hT2) fun hS=>?_
    clear hK K
    try simp only[sx]
    repeat(refine Zq ?_;simp only[sx])
    clear hw2;refine Zd fun K hK=>?_
    try simp only[sy]
    go_simp;have hnA:=Blk.new v2 110 #[.int .i64 0,.slice none 0 0];have hb3:=Zac v2 (.cells #[.int .i64 0,.slice none 0 0] 110);obtain⟨v3,hw3⟩:∃y:World,y=v2.alloc (.cells #[.int .i64 0,.slice none 0 0] 110):=⟨_,rfl⟩;rw[←hw3]at hnA hb3⊢;have hT3:=hT2.trans (hb3.mono hT2.size);have hz3:=hnA.lt;have hnB:=hnB.kept hb3;have ex:=ex.below hb3;refine hK.out _ _ (hT3) fun hS=>?_
    clear hK K
    try simp only[sx]
    repeat(refine Zq ?_;simp only[sx])
    clear hw3;refine Zd fun K hK=>?_
    try simp only[sy]
    refine Zh 2 hnA ?_;intro v4 hPA hg4;have hnB:=hnB.grown hg4 (by intro e;injection e;omega);have ex:=ex.store hg4 (by first|(left;omega)|(right;omega));have hT4:Below w.heap.size w v4:=Zab hT3 hT3.size hg4 (by intro k e;injection e;have:=hS3.size;omega);refine hK.out _ _ (hT4) fun hS=>?_
    clear hK K
    try simp only[sx]
    repeat(refine Zq ?_;simp only[sx])
    refine Zd fun K hK=>?_
    try simp only[sy]
    refine Zh 3 hnB ?_;intro v5 hPB hg5;have hPA:=hPA.grown hg5 (by intro e;injection e;omega);have ex:=ex.store hg5 (by first|(left;omega)|(right;omega));have hT5:Below w.heap.size w v5:=Zab hT4 hT4.size hg5 (by intro k e;injection e;have:=hS3.size;omega);refine hK.out _ _ (hT5) fun hS=>?_
    clear hK K
    try simp only[sx]
    repeat(refine Zq ?_;simp only[sx])
    refine Zah ?_
    go_wp2_with fail
    go_meet;have hgA:w.heap.size≤v2.heap.size:=by have:=hS3.size;omega
    have hgB:w.heap.size≤v1.heap.size:=by have:=hS3.size;omega
    exact⟨_,_,_,A1,c1,A2,c2,rfl,rfl,rfl,hgA,hgB,hT5,hPA,hPB,r1.mono (ex.hide hl (by have:=hS3.size;omega)),r2.mono (ex.hide hl (by have:=hS3.size;omega)),rfl⟩
  ·skip
   refine Zd fun K hK=>?_
   try simp only[sy]
   go_simp;have hnA:=Blk.new W3 110 #[.int .i64 0,.slice none 0 0];have hb1:=Zac W3 (.cells #[.int .i64 0,.slice none 0 0] 110);obtain⟨v1,hw1⟩:∃y:World,y=W3.alloc (.cells #[.int .i64 0,.slice none 0 0] 110):=⟨_,rfl⟩;rw[←hw1]at hnA hb1⊢;have hT1:=hS3.trans (hb1.mono hS3.size);have hz1:=hnA.lt;refine hK.out _ _ (hT1) fun hS=>?_
   clear hK K
   try simp only[sx]
   repeat(refine Zq ?_;simp only[sx])
   clear hw1;refine Zcl ?_ ?_
   ·skip
    refine Zd fun K hK=>?_
    try simp only[sy]
    go_simp;refine(Zdk n.nx n.me _ n.txs _ (rtx.mono (Zaa hT1)) small).mono ?_;rintro e v2 ⟨d1,d2,rfl,hb2,r1,r2⟩;rw[hNx.out,hAu.out,hNu.out,hE.out];rw[hRs.out]at r1;rw[hTx.out]at r2;obtain⟨A1,c1,rfl,hf1⟩:=id r1;obtain⟨A2,c2,rfl,hf2⟩:=id r2;clear hf1 hf2;have hT2:=hT1.trans (hb2.mono hT1.size);have hz2:=hb2.size;have hnA:=hnA.kept hb2;have ex:Ext v1.heap.size v2 v2:=Ext.refl _ _;refine hK.out _ _ (hT2) fun hS=>?_
    clear hK K
    try simp only[sx]
    repeat(refine Zq ?_;simp only[sx])
    refine Zd fun K hK=>?_
    try simp only[sy]
    go_simp;have hnB:=Blk.new v2 53 #[.int .i64 0,.int .i64 0,.slice none 0 0];have hb3:=Zac v2 (.cells #[.int .i64 0,.int .i64 0,.slice none 0 0] 53);obtain⟨v3,hw3⟩:∃y:World,y=v2.alloc (.cells #[.int .i64 0,.int .i64 0,.slice none 0 0] 53):=⟨_,rfl⟩;rw[←hw3]at hnB hb3⊢;have hT3:=hT2.trans (hb3.mono hT2.size);have hz3:=hnB.lt;have hnA:=hnA.kept hb3;have ex:=ex.below hb3;refine hK.out _ _ (hT3) fun hS=>?_
    clear hK K
    try simp only[sx]
    repeat(refine Zq ?_;simp only[sx])
    clear hw3;refine Zd fun K hK=>?_
    try simp only[sy]
    refine Zh 2 hnA ?_;intro v4 hPA hg4;have hnB:=hnB.grown hg4 (by intro e;injection e;omega);have ex:=ex.store hg4 (by first|(left;omega)|(right;omega));have hT4:Below w.heap.size w v4:=Zab hT3 hT3.size hg4 (by intro k e;injection e;have:=hS3.size;omega);refine hK.out _ _ (hT4) fun hS=>?_
    clear hK K
    try simp only[sx]
    repeat(refine Zq ?_;simp only[sx])
    refine Zd fun K hK=>?_
    try simp only[sy]
    refine Zh 3 hnB ?_;intro v5 hPB hg5;have hPA:=hPA.grown hg5 (by intro e;injection e;omega);have ex:=ex.store hg5 (by first|(left;omega)|(right;omega));have hT5:Below w.heap.size w v5:=Zab hT4 hT4.size hg5 (by intro k e;injection e;have:=hS3.size;omega);refine hK.out _ _ (hT5) fun hS=>?_
    clear hK K
    try simp only[sx]
    repeat(refine Zq ?_;simp only[sx])
    refine Zah ?_
    go_wp2_with fail
    go_meet;have hgA:w.heap.size≤W3.heap.size:=by have:=hS3.size;omega
    have hgB:w.heap.size≤v2.heap.size:=by have:=hS3.size;omega
    exact⟨_,_,_,A1,c1,A2,c2,rfl,rfl,rfl,hgA,hgB,hT5,hPA,hPB,r1.mono (ex.hide hl (by have:=hS3.size;omega)),r2.mono (ex.hide hl (by have:=hS3.size;omega)),rfl⟩
   ·skip
    refine Zd fun K hK=>?_
    try simp only[sy]
    go_simp;have hnB:=Blk.new v1 53 #[.int .i64 0,.int .i64 0,.slice none 0 0];have hb2:=Zac v1 (.cells #[.int .i64 0,.int .i64 0,.slice none 0 0] 53);obtain⟨v2,hw2⟩:∃y:World,y=v1.alloc (.cells #[.int .i64 0,.int .i64 0,.slice none 0 0] 53):=⟨_,rfl⟩;rw[←hw2]at hnB hb2⊢;have hT2:=hT1.trans (hb2.mono hT1.size);have hz2:=hnB.lt;have hnA:=hnA.kept hb2;refine hK.out _ _ (hT2) fun hS=>?_
    clear hK K
    try simp only[sx]
    repeat(refine Zq ?_;simp only[sx])
    clear hw2;refine Zd fun K hK=>?_
    try simp only[sy]
    go_simp;refine(Zdk n.nx n.me _ n.txs _ (rtx.mono (Zaa hT2)) small).mono ?_;rintro e v3 ⟨d1,d2,rfl,hb3,r1,r2⟩;rw[hNx.out,hAu.out,hNu.out,hE.out];rw[hRs.out]at r1;rw[hTx.out]at r2;obtain⟨A1,c1,rfl,hf1⟩:=id r1;obtain⟨A2,c2,rfl,hf2⟩:=id r2;clear hf1 hf2;have hT3:=hT2.trans (hb3.mono hT2.size);have hz3:=hb3.size;have hnA:=hnA.kept hb3;have hnB:=hnB.kept hb3;have ex:Ext v2.heap.size v3 v3:=Ext.refl _ _;refine hK.out _ _ (hT3) fun hS=>?_
    clear hK K
    try simp only[sx]
    repeat(refine Zq ?_;simp only[sx])
    refine Zd fun K hK=>?_
    try simp only[sy]
    refine Zh 2 hnA ?_;intro v4 hPA hg4;have hnB:=hnB.grown hg4 (by intro e;injection e;omega);have ex:=ex.store hg4 (by first|(left;omega)|(right;omega));have hT4:Below w.heap.size w v4:=Zab hT3 hT3.size hg4 (by intro k e;injection e;have:=hS3.size;omega);refine hK.out _ _ (hT4) fun hS=>?_
    clear hK K
    try simp only[sx]
    repeat(refine Zq ?_;simp only[sx])
    refine Zd fun K hK=>?_
    try simp only[sy]
    refine Zh 3 hnB ?_;intro v5 hPB hg5;have hPA:=hPA.grown hg5 (by intro e;injection e;omega);have ex:=ex.store hg5 (by first|(left;omega)|(right;omega));have hT5:Below w.heap.size w v5:=Zab hT4 hT4.size hg5 (by intro k e;injection e;have:=hS3.size;omega);refine hK.out _ _ (hT5) fun hS=>?_
    clear hK K
    try simp only[sx]
    repeat(refine Zq ?_;simp only[sx])
    refine Zah ?_
    go_wp2_with fail
    go_meet;have hgA:w.heap.size≤W3.heap.size:=by have:=hS3.size;omega
    have hgB:w.heap.size≤v1.heap.size:=by have:=hS3.size;omega
    exact⟨_,_,_,A1,c1,A2,c2,rfl,rfl,rfl,hgA,hgB,hT5,hPA,hPB,r1.mono (ex.hide hl (by have:=hS3.size;omega)),r2.mono (ex.hide hl (by have:=hS3.size;omega)),rfl⟩
  ·skip
   refine Zd fun K hK=>?_
   try simp only[sy]
   go_simp;have hnB:=Blk.new W3 53 #[.int .i64 0,.int .i64 0,.slice none 0 0];have hb1:=Zac W3 (.cells #[.int .i64 0,.int .i64 0,.slice none 0 0] 53);obtain⟨v1,hw1⟩:∃y:World,y=W3.alloc (.cells #[.int .i64 0,.int .i64 0,.slice none 0 0] 53):=⟨_,rfl⟩;rw[←hw1]at hnB hb1⊢;have hT1:=hS3.trans (hb1.mono hS3.size);have hz1:=hnB.lt;refine hK.out _ _ (hT1) fun hS=>?_
   clear hK K
   try simp only[sx]
   repeat(refine Zq ?_;simp only[sx])
   clear hw1;refine Zcl ?_ ?_
   ·skip
    refine Zd fun K hK=>?_
    try simp only[sy]
    go_simp;refine(Zdk n.nx n.me _ n.txs _ (rtx.mono (Zaa hT1)) small).mono ?_;rintro e v2 ⟨d1,d2,rfl,hb2,r1,r2⟩;rw[hNx.out,hAu.out,hNu.out,hE.out];rw[hRs.out]at r1;rw[hTx.out]at r2;obtain⟨A1,c1,rfl,hf1⟩:=id r1;obtain⟨A2,c2,rfl,hf2⟩:=id r2;clear hf1 hf2;have hT2:=hT1.trans (hb2.mono hT1.size);have hz2:=hb2.size;have hnB:=hnB.kept hb2;have ex:Ext v1.heap.size v2 v2:=Ext.refl _ _;refine hK.out _ _ (hT2) fun hS=>?_
    clear hK K
    try simp only[sx]
    repeat(refine Zq ?_;simp only[sx])
    refine Zd fun K hK=>?_
    try simp only[sy]
    go_simp;have hnA:=Blk.new v2 110 #[.int .i64 0,.slice none 0 0];have hb3:=Zac v2 (.cells #[.int .i64 0,.slice none 0 0] 110);obtain⟨v3,hw3⟩:∃y:World,y=v2.alloc (.cells #[.int .i64 0,.slice none 0 0] 110):=⟨_,rfl⟩;rw[←hw3]at hnA hb3⊢;have hT3:=hT2.trans (hb3.mono hT2.size);have hz3:=hnA.lt;have hnB:=hnB.kept hb3;have ex:=ex.below hb3;refine hK.out _ _ (hT3) fun hS=>?_
    clear hK K
    try simp only[sx]
    repeat(refine Zq ?_;simp only[sx])
    clear hw3;refine Zd fun K hK=>?_
    try simp only[sy]
    refine Zh 2 hnA ?_;intro v4 hPA hg4;have hnB:=hnB.grown hg4 (by intro e;injection e;omega);have ex:=ex.store hg4 (by first|(left;omega)|(right;omega));have hT4:Below w.heap.size w v4:=Zab hT3 hT3.size hg4 (by intro k e;injection e;have:=hS3.size;omega);refine hK.out _ _ (hT4) fun hS=>?_
    clear hK K
    try simp only[sx]
    repeat(refine Zq ?_;simp only[sx])
    refine Zd fun K hK=>?_
    try simp only[sy]
    refine Zh 3 hnB ?_;intro v5 hPB hg5;have hPA:=hPA.grown hg5 (by intro e;injection e;omega);have ex:=ex.store hg5 (by first|(left;omega)|(right;omega));have hT5:Below w.heap.size w v5:=Zab hT4 hT4.size hg5 (by intro k e;injection e;have:=hS3.size;omega);refine hK.out _ _ (hT5) fun hS=>?_
    clear hK K
    try simp only[sx]
    repeat(refine Zq ?_;simp only[sx])
    refine Zah ?_
    go_wp2_with fail
    go_meet;have hgA:w.heap.size≤v2.heap.size:=by have:=hS3.size;omega
    have hgB:w.heap.size≤W3.heap.size:=by have:=hS3.size;omega
    exact⟨_,_,_,A1,c1,A2,c2,rfl,rfl,rfl,hgA,hgB,hT5,hPA,hPB,r1.mono (ex.hide hl (by have:=hS3.size;omega)),r2.mono (ex.hide hl (by have:=hS3.size;omega)),rfl⟩
   ·skip
    refine Zd fun K hK=>?_
    try simp only[sy]
    go_simp;have hnA:=Blk.new v1 110 #[.int .i64 0,.slice none 0 0];have hb2:=Zac v1 (.cells #[.int .i64 0,.slice none 0 0] 110);obtain⟨v2,hw2⟩:∃y:World,y=v1.alloc (.cells #[.int .i64 0,.slice none 0 0] 110):=⟨_,rfl⟩;rw[←hw2]at hnA hb2⊢;have hT2:=hT1.trans (hb2.mono hT1.size);have hz2:=hnA.lt;have hnB:=hnB.kept hb2;refine hK.out _ _ (hT2) fun hS=>?_
    clear hK K
    try simp only[sx]
    repeat(refine Zq ?_;simp only[sx])
    clear hw2;refine Zd fun K hK=>?_
    try simp only[sy]
    go_simp;refine(Zdk n.nx n.me _ n.txs _ (rtx.mono (Zaa hT2)) small).mono ?_;rintro e v3 ⟨d1,d2,rfl,hb3,r1,r2⟩;rw[hNx.out,hAu.out,hNu.out,hE.out];rw[hRs.out]at r1;rw[hTx.out]at r2;obtain⟨A1,c1,rfl,hf1⟩:=id r1;obtain⟨A2,c2,rfl,hf2⟩:=id r2;clear hf1 hf2;have hT3:=hT2.trans (hb3.mono hT2.size);have hz3:=hb3.size;have hnB:=hnB.kept hb3;have hnA:=hnA.kept hb3;have ex:Ext v2.heap.size v3 v3:=Ext.refl _ _;refine hK.out _ _ (hT3) fun hS=>?_
    clear hK K
    try simp only[sx]
    repeat(refine Zq ?_;simp only[sx])
    refine Zd fun K hK=>?_
    try simp only[sy]
    refine Zh 2 hnA ?_;intro v4 hPA hg4;have hnB:=hnB.grown hg4 (by intro e;injection e;omega);have ex:=ex.store hg4 (by first|(left;omega)|(right;omega));have hT4:Below w.heap.size w v4:=Zab hT3 hT3.size hg4 (by intro k e;injection e;have:=hS3.size;omega);refine hK.out _ _ (hT4) fun hS=>?_
    clear hK K
    try simp only[sx]
    repeat(refine Zq ?_;simp only[sx])
    refine Zd fun K hK=>?_
    try simp only[sy]
    refine Zh 3 hnB ?_;intro v5 hPB hg5;have hPA:=hPA.grown hg5 (by intro e;injection e;omega);have ex:=ex.store hg5 (by first|(left;omega)|(right;omega));have hT5:Below w.heap.size w v5:=Zab hT4 hT4.size hg5 (by intro k e;injection e;have:=hS3.size;omega);refine hK.out _ _ (hT5) fun hS=>?_
    clear hK K
    try simp only[sx]
    repeat(refine Zq ?_;simp only[sx])
    refine Zah ?_
    go_wp2_with fail
    go_meet;have hgA:w.heap.size≤v1.heap.size:=by have:=hS3.size;omega
    have hgB:w.heap.size≤W3.heap.size:=by have:=hS3.size;omega
    exact⟨_,_,_,A1,c1,A2,c2,rfl,rfl,rfl,hgA,hgB,hT5,hPA,hPB,r1.mono (ex.hide hl (by have:=hS3.size;omega)),r2.mono (ex.hide hl (by have:=hS3.size;omega)),rfl⟩
 case rest =>
  obtain⟨gA,gB,e,A1,c1,A2,c2,rfl,rfl,rfl,hgA,hgB,hbc,hPA,hPB,r1,r2,he⟩:=hcut;obtain⟨W,hW⟩:∃W:World,W=wc:=⟨_,rfl⟩;subst hW;have l1:=Zam hl hbc;have N1:=hN.below hl hbc;have v1:=Zae hl hbc;have T1:=hT.mono v1;have F1:NFr i tb g off o w o W:=(NFr.refl hl).below hbc;have nA:=hl.none gA hgA;have nB:=hl.none gB hgB;obtain⟨b,hb⟩:∃b:Bat,Hid (b=⟨AU,NU,TX⟩):=⟨_,rfl⟩;have e1:Hid (AU=b.author):=by show _=_;rw[hb.out]
  have e2:Hid (NU=b.number):=by show _=_;rw[hb.out]
  have e3:Hid (TX=b.txs):=by show _=_;rw[hb.out]
  rw[e1.out,e2.out,e3.out]at hPB;rw[e3.out]at r2 Hsm;rw[←hb.out,←he.out]at HW1;clear s0 s2 s3 rtx hN hT small e1 e2 e3 hb HB hE hNx hRs hAu hNu hTx he
  go_upto_region 1 with fail
  go_cut [31] (fun u w'=>∃B o',u=.bool B∧NFr i tb g off o w o' w'∧NodeAt o' w' i tb g off (if e=0 then(store n b true).1 else n)∧SealW n b e B∧o' gA=none∧o' gB=none∧Blk w' gA 110 #[.int .i64 NX,.slice A1 RS.length c1]∧Blk w' gB 53 #[.int .i64 b.author,.int .i64 b.number,.slice A2 b.txs.length c2]∧VLe (Zas o W) (Zas o' w'))
  case first =>
   have p0:=hPB.cell 0;have p1:=hPB.cell 1;have p2:=hPB.cell 2;simp at p0 p1 p2
   by_cases hz:e=0
   rotate_left
   ·have hzb:(e==0)=false:=by simpa using hz
    have Hz:=Lib.hid hz;clear hz
    go_wp2_with fail
    go_meet;exact⟨false,o,rfl,F1,by rw[if_neg Hz.out];exact N1,⟨⟨fun h=>(by cases h),fun h=>absurd h.1 Hz.out⟩⟩,nA,nB,hPA,hPB,fun a v h=>h⟩
   subst hz;obtain⟨QS,hQS⟩:∃q,Hid ((store n b true).2=q):=⟨_,rfl⟩
   go_wp2_with fail
   refine(Zke i tb g off n b true _ o W l1 hi N1 T1 r2 Hsm.out.2 (by rw[HF.out.dd];exact HF.out.bats) HF.out.bats).mono ?_;rintro e w2 ⟨rfl,o2,F2,N2⟩;rw[hQS.out];have nA2:o2 gA=none:=((F2.fr.keep gA hPA.lt (fun t ht=>by rw[nA]at ht;cases ht)).1).trans nA;have nB2:o2 gB=none:=((F2.fr.keep gB hPB.lt (fun t ht=>by rw[nB]at ht;cases ht)).1).trans nB;have hPA2:=Za3 hPA F2.fr nA;have hPB2:=Za3 hPB F2.fr nB;have v2:=F2.fr.view;have F12:=F1.trans F2;have l2:=F2.fr.lim;cases QS
   rotate_left
   ·have Hr:SealW n b 0 true:=⟨⟨fun _=>⟨rfl,.inl hQS.out⟩,fun _=>rfl⟩⟩;clear hQS
    go_wp2_with fail
    go_meet;exact⟨true,o2,rfl,F12,N2,Hr,nA2,nB2,hPA2,hPB2,v2⟩
   obtain⟨QH,hQH⟩:∃q,Hid (has (store n b true).1 b=q):=⟨_,rfl⟩;have Hr:SealW n b 0 QH:=⟨by rw[hQH.out,hQS.out];simp⟩;have y0:=hPB2.cell 0;have y1:=hPB2.cell 1;have y2:=hPB2.cell 2;simp at y0 y1 y2;clear hQS p0 p1 p2
   go_wp2_with fail
   refine(has_any i tb g off _ b _ o2 w2 N2 ((r2.mono v2).mono (Zag _ _)) (HF.out.store b true).bats).mono ?_;rintro e w3 ⟨rfl,hb3⟩;rw[hQH.out];have N3:=N2.below l2 hb3;have hPA3:=hPA2.kept hb3;have hPB3:=hPB2.kept hb3;have F13:=F12.below hb3;have v3:=v2.trans (Zae l2 hb3);clear y0 y1 y2
   go_wp2_with fail
   go_meet;exact⟨QH,o2,rfl,F13,N3,Hr,nA2,nB2,hPA3,hPB3,v3⟩
  case rest =>
   obtain⟨B,o1,rfl,F2,N2,hB,nA2,nB2,hPA2,hPB2,v2⟩:=hcut;obtain⟨W2,hW2⟩:∃W2:World,W2=wc:=⟨_,rfl⟩;subst hW2;have l2:=F2.fr.lim;have r12:=r1.mono v2;have r22:=r2.mono v2;have T2:=T1.mono v2;clear N1 F1 T1 l1 v1 nA nB hPA hPB r1 r2 hbc hgA hgB
   go_upto_if 31 with fail
   go_cut [32] (fun _ w'=>∃o',NFr i tb g off o w o' w'∧NodeAt o' w' i tb g off (work1 n)∧Tabs (Zas o' w'))
   case first =>
    cases B
    ·have hres:NodeAt o1 W2 i tb g off (work1 n):=by
      rw[HW1.out];have:=mt hB.iff.2 (by simp);rw[if_neg this];exact N2
     clear N2 hB HW1
     go_wp2_with fail
     go_meet;exact⟨o1,F2,hres,T2⟩
    ·obtain⟨hz,hor⟩:=hB.iff.1 rfl
     have HW2:Hid (work1 n=tell {(store n b true).1 with nx:=NX,txs:=RS } (batM b)):=by
      show _=_;rw[HW1.out,if_pos ⟨hz,hor⟩]
     rw[if_pos hz]at N2;have f1:=HF.out.store b true;clear HW1 hz hor hB;obtain⟨n1,hn1⟩:∃n1,Hid ((store n b true).1=n1):=⟨_,rfl⟩;rw[hn1.out]at N2 HW2 f1;have H1:=Lib.hid f1;clear f1 hn1;obtain⟨hm1,⟨ytx,yba,ydi,yta,yda,yow,ymi,yvo,ytp,you⟩,S1,R1⟩:=id N2;have q0:=hPA2.cell 0;have q1:=hPA2.cell 1;simp at q0 q1;clear N2
     go_wp2_with (refine Sec.store S1 (i:=2) [.int .i64 NX,.slice A1 RS.length c1] (show 2+2≤15 by decide) rfl rfl rfl rfl (by kernel_rfl) rfl rfl ?_)
     intro w3 S3 hg3 h3;have f3:=Zaq l2 hg3 hm1;have R3:=R1.fr f3 (fun k e=>by injection e;omega);have F3:=F2.store hm1 hg3 h3 (show 2+2≤15 by decide);have S3:=S3.putPool (xs:=RS);have N3:NodeAt o1 w3 i tb g off {n1 with nx:=NX,txs:=RS }:=⟨hm1,_,S3,R3.setTx (r12.mono f3.view) Hsm.out.1⟩;have hPB3:=Za3 hPB2 f3 nB2;have r23:=r22.mono f3.view;have l3:=f3.lim;have p0:=hPB3.cell 0;have p1:=hPB3.cell 1;have p2:=hPB3.cell 2;simp at p0 p1 p2;have T3:=T2.mono f3.view;clear S3 R3 S1 R1 q0 q1 F2 hg3 h3 f3
     go_wp2_with fail
     refine(Zhv i tb g off _ (batM b) _ _ _ _ _ _ _ o1 w3 l3 hi N3 (Zjy r23) Hsm.out.2 H1.out.out).mono ?_;rintro e w4 ⟨rfl,o4,F34,N4⟩;rw[←HW2.out]at N4;have F4:=F3.trans F34;have T4:=T3.mono F34.fr.view
     go_wp2_with fail
     go_meet;exact⟨o4,F4,N4,T4⟩
   case rest =>
    obtain⟨o2,F3,N3,T3⟩:=hcut;obtain⟨W3,hW3⟩:∃W3:World,W3=wc:=⟨_,rfl⟩;subst hW3;have l3:=F3.fr.lim;obtain⟨n1,hn1⟩:∃n1,Hid (work1 n=n1):=⟨_,rfl⟩;have HR1:Hid (QR=work3 (work2 n1 (rndV n1.dag)) (rndV n1.dag)):=by show _=_;rw[←hQR.out];unfold work;rw[hn1.out]
    have f1:=HF.out.work1;rw[hn1.out]at N3 f1;have hme1:Hid (n1.me=n.me):=by show _=_;rw[←hn1.out];exact Zwh n
    have htu1:Hid (n1.turn=n.turn):=by show _=_;rw[←hn1.out];exact Zr8 n
    have H1:=Lib.hid f1;have hrr:=Zsq n1.dag;clear F2 N2 T2 hB nA2 nB2 hPA2 hPB2 v2 l2 r12 r22 HW1 Hsm hn1 f1;obtain⟨hm1,⟨ytx,yba,ydi,yta,yda,yow,ymi,yvo,ytp,you⟩,S1,R1⟩:=id N3;have s7:=S1.nd7;have s8:=S1.nd8;simp only at s7 s8;have rda:RCrts W3.cell? yda n1.dag:=R1.da.mono RCrt.mono (Zag _ _);obtain⟨daA,dac,hda,_⟩:=id rda;have hda:yda=.slice daA n1.dag.length dac:=hda;subst hda;have row:=R1.ow;simp only at row;clear S1 R1 hm1
    go_wp2_with fail
    refine(Zjm _ n1.dag W3 rda (T3.mono (Zag _ _))).mono ?_;rintro e W4 ⟨rfl,hb4⟩;obtain⟨rv,hrv⟩:∃rv,Hid (rndV n1.dag=rv):=⟨_,rfl⟩;have N4:=N3.below l3 hb4;have T4:=T3.mono (Zae l3 hb4);have F4:=F3.below hb4;have l4:=Zam l3 hb4;have s8':=Zaa hb4 _ _ s8;have row4:=row.mono (Zae l3 hb4);rw[hrv.out]at hrr HR1⊢;clear rda s7 s8 row N3 T3 F3 l3 hb4
    go_upto_block 0 with fail
    go_cut [48] (fun _ w'=>∃o',NFr i tb g off o w o' w'∧NodeAt o' w' i tb g off (work2 n1 rv))
    case first =>
     obtain⟨OW,hOW⟩:∃x,Hid (n1.own=x):=⟨_,rfl⟩;rw[hOW.out]at row4;cases OW with
     |none =>
      have row4:yow=.pointer none:=row4;subst row4;have hw2:Hid (work2 n1 rv=propose n1 rv):=by show _=_;unfold work2;rw[hOW.out]
      clear hOW
      go_wp2_with fail
      refine(Zkt i tb g off n1 rv o2 W4 l4 hi N4 T4 hrr.1 (by have:=hrr.2;omega) H1.out.out H1.out.table (by rw[H1.out.dd];exact H1.out.bats) H1.out.dd).mono ?_;rintro e w5 ⟨rfl,o5,F5,N5⟩;rw[←hw2.out]at N5
      go_wp2_with fail
      go_meet;exact⟨o5,F4.trans F5,N5⟩
     |some x =>
      obtain⟨ob,ovb,ovp,hyow,c0,c1,c2,c3,rbX,rpX⟩:=row4;have hyow:yow=.pointer (some ⟨ob,0,none⟩):=hyow;subst hyow;have c1':=Zag _ _ _ _ c1;clear c0 c1 c2 c3 rbX rpX
      by_cases hlt:x.round<rv
      ·have hw2:Hid (work2 n1 rv=propose n1 rv):=by show _=_;unfold work2;rw[hOW.out];simp[hlt]
       clear hOW
       go_wp2_with fail
       refine(Zkt i tb g off n1 rv o2 W4 l4 hi N4 T4 hrr.1 (by have:=hrr.2;omega) H1.out.out H1.out.table (by rw[H1.out.dd];exact H1.out.bats) H1.out.dd).mono ?_;rintro e w5 ⟨rfl,o5,F5,N5⟩;rw[←hw2.out]at N5
       go_wp2_with fail
       go_meet;exact⟨o5,F4.trans F5,N5⟩
      ·have hw2:Hid (work2 n1 rv=if Zd5 n1 n1.me x.round=false then again n1 else n1):=by show _=_;unfold work2;rw[hOW.out];simp[hlt]
       obtain⟨_,v5,S5,_⟩:=id N4;have s0:=S5.nd0;clear S5
       go_upto_region 7 with fail
       refine Zr [] (.q 0 (.q 1 (.q 2 (.q 3 (.q 4 (.q 5 (.q 6 (.q 7 (.q 8 (.q 9 (.q 10 (.q 11 (.l 12 (.q 13 (.q 14 .nil))))))))))))))) fun V1 hS1=>?_
       repeat((first|refine pq (h:=⟨_,fun w' hS=>by(have z0:=Zaa hS _ _ s0;have z1:=Zaa hS _ _ c1';have z2:=Zaa hS _ _ s8';go_simp;exact rfl),?_⟩)|refine Zq ?_);simp only[sx])
       refine Zd fun K hK=>?_
       try simp only[sy]
       go_simp;refine(Zel i tb g off n1 n1.me x.round o2 V1 (N4.below l4 hS1)).mono ?_;rintro e V2 ⟨rfl,hb2⟩;have hS2:=hS1.trans (hb2.mono hS1.size);obtain⟨QC,hQC⟩:∃q,Hid (Zd5 n1 n1.me x.round=q):=⟨_,rfl⟩;rw[hQC.out];refine hK.out _ _ (hS2) fun hS=>?_
       clear hK K
       try simp only[sx]
       repeat(refine Zq ?_;simp only[sx])
       refine Zah ?_;have N5:=N4.below l4 hS2;have F5:=F4.below hS2;have l5:=Zam l4 hS2;rw[hQC.out]at hw2;clear s0 c1' s8' hQC;cases QC
       rotate_left
       ·have hres:NodeAt o2 V2 i tb g off (work2 n1 rv):=by rw[hw2.out];exact N5
        clear hw2 N5
        go_wp2_with fail
        go_meet;exact⟨o2,F5,hres⟩
       ·go_wp2_with fail
        refine(Zwc i tb g off n1 x o2 V2 l5 hi N5 hOW.out (by have:=H1.out.voters;omega) H1.out.out (by rw[H1.out.dd];exact H1.out.bats) (by rw[H1.out.dd];exact Nat.le_refl _) H1.out.bats).mono ?_;rintro e w5 ⟨rfl,o5,F6,N6⟩;have hres:NodeAt o5 w5 i tb g off (work2 n1 rv):=by rw[hw2.out];exact N6
        clear hw2 N6
        go_wp2_with fail
        go_meet;exact⟨o5,F5.trans F6,hres⟩
    case rest =>
     obtain⟨o5,F5,N5⟩:=hcut;obtain⟨W5,hW5⟩:∃W5:World,W5=wc:=⟨_,rfl⟩;subst hW5;have l5:=F5.fr.lim;obtain⟨n2,hn2⟩:∃n2,Hid (work2 n1 rv=n2):=⟨_,rfl⟩;rw[hn2.out]at N5 HR1;have kd:=Zxm n1 rv;rw[hn2.out]at kd;have hmt:=Zwf n1 rv;rw[hn2.out]at hmt;have hT4:0≤n2.turn∧n2.turn≤3:=by rw[hmt.2,htu1.out];exact htu
     have hM4:0≤n2.me∧n2.me≤3:=by rw[hmt.1,hme1.out];exact hme
     have H8w:Hid (n2.digs.length≤800):=by show _≤_;rw[kd.digs,H1.out.dd];exact H1.out.bats
     have H4w:Hid (n2.out.length≤400):=kd.out H1.out.out;have HW3:Hid (QR=send {n2 with turn:=Zf5 n2.me n2.turn } (Zf5 n2.me n2.turn) (wntM (wanted n2 rv))):=by show _=_;rw[HR1.out];rfl
     clear kd hmt hn2 HR1 N4 T4 F4 l4 row4 s8' H1 hme1 htu1 hme htu;obtain⟨hm5,⟨xtx,xba,xdi,xta,xda,xow,xmi,xvo,xtp,xou⟩,S5,R5⟩:=id N5;have s0:=S5.nd0;have s14:=S5.nd14;obtain⟨T1,hT1⟩:∃x,Hid ((n2.turn+1)%4=x):=⟨_,rfl⟩;have hT1r:0≤T1∧T1≤3:=by rw[←hT1.out];omega
     have m1:Int.tmod (n2.turn+1) 4=T1:=by rw[←hT1.out,Int.tmod_eq_emod_of_nonneg (by omega)]
     obtain⟨T2,hT2⟩:∃x,Hid ((T1+1)%4=x):=⟨_,rfl⟩;have hT2r:0≤T2∧T2≤3:=by rw[←hT2.out];omega
     have m2:Int.tmod (T1+1) 4=T2:=by rw[←hT2.out,Int.tmod_eq_emod_of_nonneg (by omega)]
     have htd:Hid (Zf5 n2.me n2.turn=if T1=n2.me then T2 else T1):=by show _=_;unfold Zf5;rw[hT1.out,hT2.out]
     go_upto_region 9 with fail
     go_wp2_with (refine Sec.store S5 (i:=14) [.int .i64 T1] (show 14+1≤15 by decide) rfl rfl rfl rfl (by kernel_rfl) rfl rfl ?_)
     intro W6 S6 hg6 h6;have f6:=Zaq l5 hg6 hm5;have R6:=(R5.fr f6 (fun k e=>by injection e;omega)).setTurn T1;have F6:=F5.store hm5 hg6 h6 (show 14+1≤15 by decide);have S6:=S6.putTurn;have l6:=f6.lim;have t0:=S6.nd0;have t14:=S6.nd14;simp only at t0 t14;clear S5 R5 F5 N5 l5 s0 s14 hg6 h6 f6
     go_upto_region 10 with fail
     by_cases ht:T1=n2.me
     rotate_left
     ·have htb:(T1==n2.me)=false:=by simpa using ht
      have N6':NodeAt o5 W6 i tb g off {n2 with turn:=T1 }:=⟨hm5,_,S6,R6⟩;have HW3:Hid (QR=send {n2 with turn:=T1 } T1 (wntM (wanted n2 rv))):=by show _=_;rw[HW3.out,htd.out,if_neg ht]
      clear htd ht S6 R6 m1 m2 hT2r hT1 hT2 hm5;refine Zr [] (.q 0 (.q 1 (.q 2 (.q 3 (.q 4 (.q 5 (.q 6 (.q 7 (.q 8 .nil))))))))) fun W7 hS7=>?_
      repeat((first|refine pq (h:=⟨_,fun w' hS=>by(have z0:=Zaa hS _ _ t0;have z1:=Zaa hS _ _ t14;go_simp;exact rfl),?_⟩)|refine Zq ?_);simp only[sx])
      refine Zah ?_;have N9:=N6'.below l6 hS7;have F9:=F6.below hS7;have l9:=Zam l6 hS7;have t14:=Zaa hS7 _ _ t14;obtain⟨W9,hW9⟩:∃x:World,x=W7:=⟨_,rfl⟩;subst hW9;clear N6' F6 l6 t0
      go_upto_region 12 with fail
      refine Zt (fun w'=>Below W9.heap.size W9 w') (fun w'=>w'.cell? ⟨g,off+14,none⟩=some (.int .i64 T1)) [] (.q 0 (.q 1 (.q 2 (.q 3 (.q 4 (.q 5 (.q 6 (.l 7 (.q 8 (.l 9 .nil)))))))))) ?_ ?_
      ·exact⟨Zad _,Zaa (Zad _) _ _ t14⟩
      intro V1 hS0 hS1
      repeat((first|refine pq (h:=⟨_,fun w' hS=>by(have z1:=hS;go_simp;exact rfl),?_⟩)|refine Zq ?_);simp only[sx])
      have NV:=N9.below l9 hS0;have FV:=F9.below hS0;have lV:=Zam l9 hS0;refine Zd fun K hK=>?_
      try simp only[sy]
      go_simp;refine(Zmb i tb g off _ rv o5 V1 lV NV hrr.1 (by have:=hrr.2;omega) H8w.out).mono ?_;rintro e V2 ⟨rfl,hbV⟩;have NV2:=NV.below lV hbV;have FV2:=FV.below hbV;have lV2:=Zam lV hbV;have t142:=Zaa hbV _ _ (Zaa hS0 _ _ t14);refine hK.out _ _ (t142) fun hS=>?_
      clear hK K
      try simp only[sx]
      repeat(refine Zq ?_;simp only[sx])
      refine Zd fun K hK=>?_
      try simp only[sy]
      go_simp;refine(Ze5 i tb g off _ T1 (wntM _) _ _ _ _ _ _ _ o5 V2 lV2 hi NV2 (Zrf _ _) (fun s hs=>by cases hs) H4w.out).mono ?_;rintro e V3 ⟨rfl,o6,F6,N6⟩
      have t143:V3.cell? ⟨g,off+14,none⟩=some (.int .i64 T1):=by
       obtain⟨_,v6,S6,_⟩:=id N6;have:=S6.nd14;rw[(Zeo _ _ _).2.2.2.2.2.1]at this;exact this
      refine hK.out _ _ (t143) fun hS=>?_
      clear hK K
      try simp only[sx]
      repeat(refine Zq ?_;simp only[sx])
      refine Zah ?_;go_wp2;go_end0;exact⟨rfl,o6,FV2.trans F6,by rw[HW3.out];exact N6⟩
     have htb:(T1==n2.me)=true:=by simpa using ht
     have HW3:Hid (QR=send {n2 with turn:=T2 } T2 (wntM (wanted n2 rv))):=by show _=_;rw[HW3.out,htd.out,if_pos ht]
     clear htd ht m1 hT1 hT2;refine Zr [] (.q 0 (.q 1 (.q 2 (.q 3 (.q 4 (.q 5 (.q 6 (.q 7 (.q 8 .nil))))))))) fun W7 hS7=>?_
     repeat((first|refine pq (h:=⟨_,fun w' hS=>by(have z0:=Zaa hS _ _ t0;have z1:=Zaa hS _ _ t14;go_simp;exact rfl),?_⟩)|refine Zq ?_);simp only[sx])
     refine Zah ?_;have f7:=Fr.of_below (T:=fun _=>False) l6 hS7;have S7:=S6.fr f7 hm5 (fun h=>h);have R7:=R6.fr f7 (fun _ h=>h);have F7:=F6.below hS7;have l7:=f7.lim;have t14:=Zaa hS7 _ _ t14;clear S6 R6 F6 l6 t0 f7 hS7
     go_wp2_with (refine Sec.store S7 (i:=14) [.int .i64 T2] (show 14+1≤15 by decide) rfl rfl rfl rfl (by kernel_rfl) rfl rfl ?_)
     intro W9 S9 hg9 h9;have f9:=Zaq l7 hg9 hm5;have R9:=(R7.fr f9 (fun k e=>by injection e;omega)).setTurn T2;have F9:=F7.store hm5 hg9 h9 (show 14+1≤15 by decide);have S9:=S9.putTurn;have l9:=f9.lim;have N9:NodeAt o5 W9 i tb g off {n2 with turn:=T2 }:=⟨hm5,_,S9,R9⟩;have t14:=S9.nd14;simp only at t14;clear S7 R7 F7 l7 hg9 h9 f9 S9 R9 m2
     go_upto_region 12 with fail
     refine Zt (fun w'=>Below W9.heap.size W9 w') (fun w'=>w'.cell? ⟨g,off+14,none⟩=some (.int .i64 T2)) [] (.q 0 (.q 1 (.q 2 (.q 3 (.q 4 (.q 5 (.q 6 (.l 7 (.q 8 (.l 9 .nil)))))))))) ?_ ?_
     ·exact⟨Zad _,Zaa (Zad _) _ _ t14⟩
     intro V1 hS0 hS1
     repeat((first|refine pq (h:=⟨_,fun w' hS=>by(have z1:=hS;go_simp;exact rfl),?_⟩)|refine Zq ?_);simp only[sx])
     have NV:=N9.below l9 hS0;have FV:=F9.below hS0;have lV:=Zam l9 hS0;refine Zd fun K hK=>?_
     try simp only[sy]
     go_simp;refine(Zmb i tb g off _ rv o5 V1 lV NV hrr.1 (by have:=hrr.2;omega) H8w.out).mono ?_;rintro e V2 ⟨rfl,hbV⟩;have NV2:=NV.below lV hbV;have FV2:=FV.below hbV;have lV2:=Zam lV hbV;have t142:=Zaa hbV _ _ (Zaa hS0 _ _ t14);refine hK.out _ _ (t142) fun hS=>?_
     clear hK K
     try simp only[sx]
     repeat(refine Zq ?_;simp only[sx])
     refine Zd fun K hK=>?_
     try simp only[sy]
     go_simp;refine(Ze5 i tb g off _ T2 (wntM _) _ _ _ _ _ _ _ o5 V2 lV2 hi NV2 (Zrf _ _) (fun s hs=>by cases hs) H4w.out).mono ?_;rintro e V3 ⟨rfl,o6,F6,N6⟩
     have t143:V3.cell? ⟨g,off+14,none⟩=some (.int .i64 T2):=by
      obtain⟨_,v6,S6,_⟩:=id N6;have:=S6.nd14;rw[(Zeo _ _ _).2.2.2.2.2.1]at this;exact this
     refine hK.out _ _ (t143) fun hS=>?_
     clear hK K
     try simp only[sx]
     repeat(refine Zq ?_;simp only[sx])
     refine Zah ?_;go_wp2;go_end0;exact⟨rfl,o6,FV2.trans F6,by rw[HW3.out];exact N6⟩
end Fl
end Go.Proofs.YtinibgklgehdpaaGreatDoor
