/- The law TopForge: what is no message does nothing: it answers true at every argument, and changes none of them: no condition; its card: the tables tied to the program's text. -/
import Derived.Test.YtinibgklgehdpaaGreatDoorXLawForge01
import Derived.Test.YtinibgklgehdpaaGreatDoorXLawForge01
namespace Go.Proofs.YtinibgklgehdpaaGreatDoor
open Go.ChangeShapes Go.WideShapes Go.ChangeAt Go.RowKit Qa Qb Qc
set_option linter.all false
set_option maxHeartbeats 20000000
set_option maxRecDepth 100000
variable{w W:World}{v:Value}{b:Nat}
namespace Fl
theorem from_but{B:Nat}(h:b<B):VLe (View.from w.cell? B) (View.but w.cell? (some b)):=fun a v e=>by
 unfold View.from View.but at *
 split at e
 ·cases e
 ·rename_i h1
  rw[if_neg (by intro e;injection e;omega)]
  exact e
theorem vle_new(hb:Below w.heap.size w W):VLe w.cell? (View.but W.cell? (some w.heap.size)):=fun a v e=>by
 have hlt:=World.block_lt_of_cell? w a e
 unfold View.but
 rw[if_neg (by intro e;injection e;omega)]
 exact Zaa hb _ _ e
theorem topForge_any(v vb:Value)(l:List At)(n p:Int)(raw:List UInt8)(w:World)(rl:RAts w.cell? v l)(hg:∀g∈l,GOk g)(hn:I64 n)(hp:I64 p)(rr:Zao w.cell? vb raw)(hT:Tabs w.cell?) :
 Calls Tryz.prog 12 #[v,.int .i64 n,vb,.int .i64 p] w fun e w'=>e=.returned (.bool true)∧Below w.heap.size w w':=by
 have h1:=bad_any n;have h2:=Zd2 p 4;have hr:=Zz0 n;have hpr:=Zb2 p (many:=4) (by decide);obtain⟨B,hB⟩:∃P,Hid (badI n=P):=⟨_,rfl⟩;obtain⟨i,hi⟩:∃P,Hid (Zcw p 4=P):=⟨_,rfl⟩;rw[hB.out]at h1 hr;rw[hi.out]at h2 hpr;have H1:=Lib.hid (fun w=>h1 w hn);have H2:=Lib.hid (fun w=>h2 w hp (by decide));have HG:=Lib.hid hg;obtain⟨k,rfl⟩:∃k:Nat,i=k:=⟨i.toNat,by omega⟩;have Hi4:Hid (0≤(k:Int)∧(k:Int)≤3):=Lib.hid (by omega);have Hr:=Lib.hid hr;obtain⟨A,lc,rfl,hf⟩:=id rl;obtain⟨E,hE⟩:∃E,Hid (decE raw=E):=⟨_,rfl⟩;have Hdec:=Lib.hid (fun w (h:Zao w.cell? vb raw)=>Zi8 vb raw w h);obtain⟨M,hM⟩:∃M,Hid (decM raw=M):=⟨_,rfl⟩;rw[hE.out,hM.out]at Hdec;obtain⟨rA,rc,rfl,hrc,hrm,hrb,-,-⟩:=id rr;obtain⟨m,hm⟩:∃m:Nat,Hid (min raw.length 4000=m):=⟨_,rfl⟩;have hmin:min (raw.length:Int) 4000=(m:Int):=by have:=hm.out;omega
 have hml:m≤raw.length:=by have:=hm.out;omega
 have hm4:m≤4000:=by have:=hm.out;omega
 have hmax:max (m:Int) 0=(m:Int):=by omega
 have hMc:m≤rc:=by omega
 have hMc':(m:Int)≤(rc:Int):=by omega
 have hM0:(0:Int)≤(m:Int):=by omega
 obtain⟨t,ht⟩:∃t,Hid (bstr (raw.take m)=t):=⟨_,rfl⟩
 have htk:Hid (¬4000<raw.length→Zca t=raw):=Lib.hid (fun h=>by
  have e:=hm.out;rw[←ht.out,List.take_of_length_le (by omega)];show raw.toArray.toList=raw
  simp)
 have htz:Hid (t.size≤4000):=Lib.hid (by rw[←ht.out,Zlp];simp;omega);have Hac:Hid (Acts [Zvl k t]):=Lib.hid (Acts.cons (Zxs Hi4.out htz.out) Acts.nil);have Hst:=Lib.hid (fun(w:World) (h:Zao w.cell? (.slice rA raw.length rc) raw)=>Zet (RVec.take h hml));rw[ht.out]at Hst;clear h1 h2 hB hi hg hn hp hpr hf hr hM hm ht htz hrm hrb
 go_enter Tryz.func12,Tryz.ntmps12
 go_wp2_with fail
 refine(H1.out _).mono ?_;rintro e wz ⟨rfl,rfl⟩
 go_wp2_with fail
 refine(Zyn _ l 40 _ rl HG.out (by decide)).mono ?_;rintro e w1 ⟨v1,a,rfl,hb1,o1,ha,hal⟩;have Ha:=Lib.hid ha;obtain⟨A1,c1,rfl⟩:=o1.form;have r1:=o1.reads (by omega);have hz1:=hb1.size;have rr1:=rr.mono (Zaa hb1);clear o1 ha rl rr
 go_wp2_with fail
 refine(Hdec.out _ rr1).mono ?_;rintro e w2 ⟨vt,vb,vp,vd,cb,cp,cv,rfl,hb2,rm2⟩;obtain⟨⟨tA,tc,rfl⟩,⟨bA,bc,rfl⟩,⟨pA,pc,rfl⟩,⟨dA',dc',rfl⟩,⟨cA,cc,rfl⟩,⟨qA,qc,rfl⟩,⟨eA,ec,rfl⟩⟩:=rm2.forms;clear rm2 Hdec;unfold msgC;have hn5:=Blk.new w2 66 #[.int .i64 0,.int .i64 0,.int .i64 0,.int .i64 0,.int .i64 0,.slice none 0 0,.int .i64 0,.int .i64 0,.slice none 0 0,.slice none 0 0,.int .i64 0,.int .i64 0,.slice none 0 0,.int .i64 0,.int .i64 0,.slice none 0 0,.slice none 0 0,.slice none 0 0,.int .i64 0];have hb5:=Zac w2 (.cells #[.int .i64 0,.int .i64 0,.int .i64 0,.int .i64 0,.int .i64 0,.slice none 0 0,.int .i64 0,.int .i64 0,.slice none 0 0,.slice none 0 0,.int .i64 0,.int .i64 0,.slice none 0 0,.int .i64 0,.int .i64 0,.slice none 0 0,.slice none 0 0,.slice none 0 0,.int .i64 0] 66)
 go_wp2_with (refine Zj 19 hn5 ?_)
 intro w4 hX hgX;have hbX:Below w2.heap.size w2 w4:=Zab hb5 hb5.size hgX (by intro k e;injection e;omega);have hb14:=hb2.trans (hbX.mono hb2.size);have hbl4:=hb1.trans (hb14.mono hz1);have hz4:=hbl4.size;have r4:=r1.mono RAt.mono (Zaa hb14);have rr4:=rr1.mono (Zaa hb14);clear hn5 hb5 hgX hX r1 rr1 hbX hb2 hb14
 go_wp2_with fail
 refine(Zrj B _ a _ Hr.out r4 Ha.out (by omega) (hT.mono (Zaa hbl4))).mono ?_;rintro e w5 ⟨X1,x1,X2,xn,x2,X3,xm,x3,rfl,hb5,-,hxm,rxv,-⟩;have hbl5:=hbl4.trans (hb5.mono hz4);have hz5:=hbl5.size;have r5:=r4.mono RAt.mono (Zaa hb5);have rr5:=rr4.mono (Zaa hb5);obtain⟨AX,hAX⟩:∃n:Nat,Hid ((run B a).away.length=n):=⟨_,rfl⟩;rw[hAX.out];have Hxm:=Lib.hid hxm;clear r4 rr4 hxm
 go_upto_region 5 with fail
 refine Zo fun W6 hk6 hsz6 hb6=>?_
 clear hsz6;have hbl6:=hbl5.trans (hb6.mono hz5);have hz6:=hbl6.size;have r6:=r5.mono RAt.mono (Zaa hb6);have rr6:=rr5.mono (Zaa hb6);have rx6:=rxv.mono RVw.mono (Zaa hb6);have Ha2:Hid (Acts (a++[Zvl k t])):=Lib.hid (Ha.out.append Hac.out);have hwl:a.length+[Zvl k t].length≤100000:=by simp;omega
 have hl8:(a++[Zvl k t]).length≤3000:=by simp;omega
 have Hlf:=Lib.hid (fun h=>forge_law B a k (t:=t) h);obtain⟨ls,has⟩:∃ls,Hid (a++[Zvl k t]=ls):=⟨_,rfl⟩;rw[has.out]at Ha2 hl8 Hlf;obtain⟨R,hR⟩:∃f,Hid (run B ls=f):=⟨_,rfl⟩;clear r5 rr5 rxv
 go_cut [15,16] (fun p q w'=>∃gb Y1 y1 Y2 yn y2 Y3 y3,p=.pointer (some ⟨gb,0,none⟩)∧q=.bool true∧Below W6.heap.size W6 w'∧Blk w' gb 28 #[.slice Y1 4 y1,.slice Y2 yn y2,.int .i64 (R.away.length:Nat),.slice Y3 R.codes.length y3]∧RSl 6 RVw 112 w'.cell? (.slice Y1 4 y1) (Zhg R))
 case first =>
  refine Zr [19] (.q 0 (.q 1 (.q 2 (.q 4 (.q 5 (.q 6 (.q 7 (.q 8 (.q 9 (.alt 3 (.q 10 (.alt 11 (.alt 12 (.alt 13 (.q 14 (.q 15 (.q 16 (.l 17 (.l 18 (.qc 19 .nil)))))) 17 (.l 13 (.q 14 (.q 15 (.q 16 (.l 18 (.qc 19 .nil))))))) 17 (.l 12 (.l 13 (.q 14 (.q 15 (.q 16 (.l 18 (.qc 19 .nil)))))))) 17 (.l 11 (.l 12 (.l 13 (.q 14 (.q 15 (.q 16 (.l 18 (.qc 19 .nil)))))))))) 17 (.l 3 (.q 10 (.l 11 (.l 12 (.l 13 (.q 14 (.q 15 (.q 16 (.l 18 (.qc 19 .nil)))))))))))))))))))) fun Wa hS0=>?_
  repeat((first|refine pq (h:=⟨_,fun w' hS=>by(have hst:=Hst.out _ (rr6.mono (Zaa hS));go_simp;exact rfl),?_⟩)|refine Zq ?_);simp only[sx])
  refine Zcl ?_ ?_
  ·refine Zd fun K hK=>?_
   try simp only[sy]
   go_simp;refine(H2.out _).mono ?_;rintro e wz ⟨rfl,rfl⟩;refine hK.out _ _ (hS0) fun hS=>?_
   clear hK K
   try simp only[sx]
   repeat((first|refine pq (h:=⟨_,fun w' hS=>by(have hst:=Hst.out _ (rr6.mono (Zaa hS));go_simp;exact rfl),?_⟩)|refine Zq ?_);simp only[sx])
   refine Zcl ?_ ?_
   ·refine Zd fun K hK=>?_
    try simp only[sy]
    go_simp;refine hK.out _ _ (Zn8 hS0) fun hS=>?_
    clear hK K
    try simp only[sx]
    refine Za7 _ _ 58 (fun W=>Pl.wp _ _ _ _ _ _ _ W) (fun W9 hkn hsn hbn9=>?_);clear hsn;have hya:RAts W9.cell? (.slice (some ⟨_,0,none⟩) 1 1) [Zvl k t]:=RAts.ofBlk [Zvl k t] hkn rfl (by simp);have hS9:Below W6.heap.size W6 W9:=hS0.trans (hbn9.mono hS0.size)
    repeat(refine Zq ?_;simp only[sx])
    refine Zcl ?_ ?_
    ·refine Zd fun K hK=>?_
     try simp only[sy]
     go_simp;refine(Zq3 _ _ a [Zvl k t] _ (r6.mono RAt.mono (Zaa hS9)) hya hwl).mono ?_;rintro e w8 ⟨v8,rfl,hb8,o8⟩;rw[has.out]at o8;obtain⟨A8,c8,rfl⟩:=o8.form;have r8:=o8.reads (by omega);have hS8:Below W6.heap.size W6 w8:=hS9.trans (hb8.mono hS9.size);clear o8;refine hK.out _ _ (hS8) fun hS=>?_
     clear hK K
     try simp only[sx]
     repeat(refine Zq ?_;simp only[sx])
     refine Zcl ?_ ?_
     ·refine Zd fun K hK=>?_
      try simp only[sy]
      go_simp;refine(ranW_any B _ ls _ Hr.out r8 Ha2.out hl8 (hT.mono (Zaa (hbl6.trans (hS8.mono hz6))))).mono ?_;rintro e w9 ⟨Y1,y1,Y2,yn,y2,Y3,ym,y3,rfl,hb9,-,rfl,ry,-⟩;rw[hR.out]at ry;rw[hR.out];have hSr:Below W6.heap.size W6 w9:=hS8.trans (hb9.mono hS8.size);have ry:=ry.mono RVw.mono (View.from_le _ _);refine hK.out _ _ (hSr) fun hS=>?_
      clear hK K
      try simp only[sx]
      repeat(refine Zq ?_;simp only[sx])
      refine Zd fun K hK=>?_
      try simp only[sy]
      go_simp;refine hK.out _ _ (Zn8 hSr) fun hS=>?_
      clear hK K
      try simp only[sx]
      refine Za7 _ _ 28 (fun W=>Pl.wp _ _ _ _ _ _ _ W) (fun WO hko hsn hbn=>?_);clear hsn;have hgl:=hSr.size;have hgx:=hko.lt;have hSO:Below W6.heap.size W6 WO:=hSr.trans (hbn.mono hSr.size);have ryb:=ry.mono RVw.mono (vle_new hbn)
      repeat((first|refine pq (h:=⟨_,fun w' hS=>by(have hst:=Hst.out _ (rr6.mono (Zaa hS));go_simp;exact rfl),?_⟩)|refine Zq ?_);simp only[sx])
      refine Zd fun K hK=>?_
      try simp only[sy]
      refine Zh 4 hko ?_;intro w7 hB7 hg7;have hb7:Below W6.heap.size W6 w7:=Zab hSO hSO.size hg7 (by intro q e;injection e;omega);have ry7:=ryb.mono RVw.mono (Zbn hg7);refine hK.out _ _ (hb7) fun hS=>?_
      clear hK K
      try simp only[sx]
      repeat(refine Zq ?_;simp only[sx])
      refine Zah ?_
      go_wp2_with fail
      go_meet;exact⟨_,_,_,_,_,_,_,_,rfl,rfl,hb7,hB7,ry7⟩
     ·refine Zd fun K hK=>?_
      try simp only[sy]
      go_simp;refine hK.out _ _ (Zn8 hS8) fun hS=>?_
      clear hK K
      try simp only[sx]
      refine Za7 _ _ 28 (fun W=>Pl.wp _ _ _ _ _ _ _ W) (fun WO hko hsn hbn=>?_);clear hsn;have hgl:=hS8.size;have hgx:=hko.lt;have hSO:Below W6.heap.size W6 WO:=hS8.trans (hbn.mono hS8.size);have r8:=r8.mono RAt.mono (Zaa hbn)
      repeat((first|refine pq (h:=⟨_,fun w' hS=>by(have hst:=Hst.out _ (rr6.mono (Zaa hS));go_simp;exact rfl),?_⟩)|refine Zq ?_);simp only[sx])
      refine Zd fun K hK=>?_
      try simp only[sy]
      go_simp;refine(ranW_any B _ ls _ Hr.out r8 Ha2.out hl8 (hT.mono (Zaa (hbl6.trans (hSO.mono hz6))))).mono ?_;rintro e w9 ⟨Y1,y1,Y2,yn,y2,Y3,ym,y3,rfl,hb9,-,rfl,ry,-⟩;rw[hR.out]at ry;rw[hR.out];have hSr:Below W6.heap.size W6 w9:=hSO.trans (hb9.mono hSO.size);have ryb:=ry.mono RVw.mono (from_but hgx);have hko:=hko.kept hb9;refine hK.out _ _ (hSr) fun hS=>?_
      clear hK K
      try simp only[sx]
      repeat(refine Zq ?_;simp only[sx])
      refine Zd fun K hK=>?_
      try simp only[sy]
      refine Zh 4 hko ?_;intro w7 hB7 hg7;have hb7:Below W6.heap.size W6 w7:=Zab hSr hSr.size hg7 (by intro q e;injection e;omega);have ry7:=ryb.mono RVw.mono (Zbn hg7);refine hK.out _ _ (hb7) fun hS=>?_
      clear hK K
      try simp only[sx]
      repeat(refine Zq ?_;simp only[sx])
      refine Zah ?_
      go_wp2_with fail
      go_meet;exact⟨_,_,_,_,_,_,_,_,rfl,rfl,hb7,hB7,ry7⟩
    ·refine Zd fun K hK=>?_
     try simp only[sy]
     go_simp;refine hK.out _ _ (Zn8 hS9) fun hS=>?_
     clear hK K
     try simp only[sx]
     refine Za7 _ _ 28 (fun W=>Pl.wp _ _ _ _ _ _ _ W) (fun WO hko hsn hbn=>?_);clear hsn;have hgl:=hS9.size;have hgx:=hko.lt;have hSO:Below W6.heap.size W6 WO:=hS9.trans (hbn.mono hS9.size);have hya:=hya.mono RAt.mono (Zaa hbn)
     repeat((first|refine pq (h:=⟨_,fun w' hS=>by(have hst:=Hst.out _ (rr6.mono (Zaa hS));go_simp;exact rfl),?_⟩)|refine Zq ?_);simp only[sx])
     refine Zd fun K hK=>?_
     try simp only[sy]
     go_simp;refine(Zq3 _ _ a [Zvl k t] _ (r6.mono RAt.mono (Zaa hSO)) hya hwl).mono ?_;rintro e w8 ⟨v8,rfl,hb8,o8⟩;rw[has.out]at o8;obtain⟨A8,c8,rfl⟩:=o8.form;have r8:=o8.reads (by omega);have hS8:Below W6.heap.size W6 w8:=hSO.trans (hb8.mono hSO.size);have hko:=hko.kept hb8;have hgx:=Nat.lt_of_lt_of_le hgx hb8.size;clear o8;refine hK.out _ _ (hS8) fun hS=>?_
     clear hK K
     try simp only[sx]
     repeat(refine Zq ?_;simp only[sx])
     refine Zd fun K hK=>?_
     try simp only[sy]
     go_simp;refine(ranW_any B _ ls _ Hr.out r8 Ha2.out hl8 (hT.mono (Zaa (hbl6.trans (hS8.mono hz6))))).mono ?_;rintro e w9 ⟨Y1,y1,Y2,yn,y2,Y3,ym,y3,rfl,hb9,-,rfl,ry,-⟩;rw[hR.out]at ry;rw[hR.out];have hSr:Below W6.heap.size W6 w9:=hS8.trans (hb9.mono hS8.size);have ryb:=ry.mono RVw.mono (from_but hgx);have hko:=hko.kept hb9;refine hK.out _ _ (hSr) fun hS=>?_
     clear hK K
     try simp only[sx]
     repeat(refine Zq ?_;simp only[sx])
     refine Zd fun K hK=>?_
     try simp only[sy]
     refine Zh 4 hko ?_;intro w7 hB7 hg7;have hb7:Below W6.heap.size W6 w7:=Zab hSr hSr.size hg7 (by intro q e;injection e;omega);have ry7:=ryb.mono RVw.mono (Zbn hg7);refine hK.out _ _ (hb7) fun hS=>?_
     clear hK K
     try simp only[sx]
     repeat(refine Zq ?_;simp only[sx])
     refine Zah ?_
     go_wp2_with fail
     go_meet;exact⟨_,_,_,_,_,_,_,_,rfl,rfl,hb7,hB7,ry7⟩
   ·refine Zd fun K hK=>?_
    try simp only[sy]
    go_simp;refine hK.out _ _ (Zn8 hS0) fun hS=>?_
    clear hK K
    try simp only[sx]
    refine Za7 _ _ 28 (fun W=>Pl.wp _ _ _ _ _ _ _ W) (fun WO hko hsn hbn=>?_);clear hsn;have hgl:=hS0.size;have hgx:=hko.lt;have hSO:Below W6.heap.size W6 WO:=hS0.trans (hbn.mono hS0.size)
    repeat((first|refine pq (h:=⟨_,fun w' hS=>by(have hst:=Hst.out _ (rr6.mono (Zaa hS));go_simp;exact rfl),?_⟩)|refine Zq ?_);simp only[sx])
    refine Zd fun K hK=>?_
    try simp only[sy]
    go_simp;refine hK.out _ _ (Zn8 hSO) fun hS=>?_
    clear hK K
    try simp only[sx]
    refine Za7 _ _ 58 (fun W=>Pl.wp _ _ _ _ _ _ _ W) (fun W9 hkn hsn hbn9=>?_);clear hsn;have hya:RAts W9.cell? (.slice (some ⟨_,0,none⟩) 1 1) [Zvl k t]:=RAts.ofBlk [Zvl k t] hkn rfl (by simp);have hS9:Below W6.heap.size W6 W9:=hSO.trans (hbn9.mono hSO.size);have hko:=hko.kept hbn9;have hgx:=Nat.lt_of_lt_of_le hgx hbn9.size
    repeat(refine Zq ?_;simp only[sx])
    refine Zd fun K hK=>?_
    try simp only[sy]
    go_simp;refine(Zq3 _ _ a [Zvl k t] _ (r6.mono RAt.mono (Zaa hS9)) hya hwl).mono ?_;rintro e w8 ⟨v8,rfl,hb8,o8⟩;rw[has.out]at o8;obtain⟨A8,c8,rfl⟩:=o8.form;have r8:=o8.reads (by omega);have hS8:Below W6.heap.size W6 w8:=hS9.trans (hb8.mono hS9.size);have hko:=hko.kept hb8;have hgx:=Nat.lt_of_lt_of_le hgx hb8.size;clear o8;refine hK.out _ _ (hS8) fun hS=>?_
    clear hK K
    try simp only[sx]
    repeat(refine Zq ?_;simp only[sx])
    refine Zd fun K hK=>?_
    try simp only[sy]
    go_simp;refine(ranW_any B _ ls _ Hr.out r8 Ha2.out hl8 (hT.mono (Zaa (hbl6.trans (hS8.mono hz6))))).mono ?_;rintro e w9 ⟨Y1,y1,Y2,yn,y2,Y3,ym,y3,rfl,hb9,-,rfl,ry,-⟩;rw[hR.out]at ry;rw[hR.out];have hSr:Below W6.heap.size W6 w9:=hS8.trans (hb9.mono hS8.size);have ryb:=ry.mono RVw.mono (from_but hgx);have hko:=hko.kept hb9;refine hK.out _ _ (hSr) fun hS=>?_
    clear hK K
    try simp only[sx]
    repeat(refine Zq ?_;simp only[sx])
    refine Zd fun K hK=>?_
    try simp only[sy]
    refine Zh 4 hko ?_;intro w7 hB7 hg7;have hb7:Below W6.heap.size W6 w7:=Zab hSr hSr.size hg7 (by intro q e;injection e;omega);have ry7:=ryb.mono RVw.mono (Zbn hg7);refine hK.out _ _ (hb7) fun hS=>?_
    clear hK K
    try simp only[sx]
    repeat(refine Zq ?_;simp only[sx])
    refine Zah ?_
    go_wp2_with fail
    go_meet;exact⟨_,_,_,_,_,_,_,_,rfl,rfl,hb7,hB7,ry7⟩
  ·refine Zd fun K hK=>?_
   try simp only[sy]
   go_simp;refine hK.out _ _ (Zn8 hS0) fun hS=>?_
   clear hK K
   try simp only[sx]
   refine Za7 _ _ 28 (fun W=>Pl.wp _ _ _ _ _ _ _ W) (fun WO hko hsn hbn=>?_);clear hsn;have hgl:=hS0.size;have hgx:=hko.lt;have hSO:Below W6.heap.size W6 WO:=hS0.trans (hbn.mono hS0.size)
   repeat((first|refine pq (h:=⟨_,fun w' hS=>by(have hst:=Hst.out _ (rr6.mono (Zaa hS));go_simp;exact rfl),?_⟩)|refine Zq ?_);simp only[sx])
   refine Zd fun K hK=>?_
   try simp only[sy]
   go_simp;refine(H2.out _).mono ?_;rintro e wz ⟨rfl,rfl⟩;refine hK.out _ _ (hSO) fun hS=>?_
   clear hK K
   try simp only[sx]
   repeat((first|refine pq (h:=⟨_,fun w' hS=>by(have hst:=Hst.out _ (rr6.mono (Zaa hS));go_simp;exact rfl),?_⟩)|refine Zq ?_);simp only[sx])
   refine Zd fun K hK=>?_
   try simp only[sy]
   go_simp;refine hK.out _ _ (Zn8 hSO) fun hS=>?_
   clear hK K
   try simp only[sx]
   refine Za7 _ _ 58 (fun W=>Pl.wp _ _ _ _ _ _ _ W) (fun W9 hkn hsn hbn9=>?_);clear hsn;have hya:RAts W9.cell? (.slice (some ⟨_,0,none⟩) 1 1) [Zvl k t]:=RAts.ofBlk [Zvl k t] hkn rfl (by simp);have hS9:Below W6.heap.size W6 W9:=hSO.trans (hbn9.mono hSO.size);have hko:=hko.kept hbn9;have hgx:=Nat.lt_of_lt_of_le hgx hbn9.size
   repeat(refine Zq ?_;simp only[sx])
   refine Zd fun K hK=>?_
   try simp only[sy]
   go_simp;refine(Zq3 _ _ a [Zvl k t] _ (r6.mono RAt.mono (Zaa hS9)) hya hwl).mono ?_;rintro e w8 ⟨v8,rfl,hb8,o8⟩;rw[has.out]at o8;obtain⟨A8,c8,rfl⟩:=o8.form;have r8:=o8.reads (by omega);have hS8:Below W6.heap.size W6 w8:=hS9.trans (hb8.mono hS9.size);have hko:=hko.kept hb8;have hgx:=Nat.lt_of_lt_of_le hgx hb8.size;clear o8;refine hK.out _ _ (hS8) fun hS=>?_
   clear hK K
   try simp only[sx]
   repeat(refine Zq ?_;simp only[sx])
   refine Zd fun K hK=>?_
   try simp only[sy]
   go_simp;refine(ranW_any B _ ls _ Hr.out r8 Ha2.out hl8 (hT.mono (Zaa (hbl6.trans (hS8.mono hz6))))).mono ?_;rintro e w9 ⟨Y1,y1,Y2,yn,y2,Y3,ym,y3,rfl,hb9,-,rfl,ry,-⟩;rw[hR.out]at ry;rw[hR.out];have hSr:Below W6.heap.size W6 w9:=hS8.trans (hb9.mono hS8.size);have ryb:=ry.mono RVw.mono (from_but hgx);have hko:=hko.kept hb9;refine hK.out _ _ (hSr) fun hS=>?_
   clear hK K
   try simp only[sx]
   repeat(refine Zq ?_;simp only[sx])
   refine Zd fun K hK=>?_
   try simp only[sy]
   refine Zh 4 hko ?_;intro w7 hB7 hg7;have hb7:Below W6.heap.size W6 w7:=Zab hSr hSr.size hg7 (by intro q e;injection e;omega);have ry7:=ryb.mono RVw.mono (Zbn hg7);refine hK.out _ _ (hb7) fun hS=>?_
   clear hK K
   try simp only[sx]
   repeat(refine Zq ?_;simp only[sx])
   refine Zah ?_
   go_wp2_with fail
   go_meet;exact⟨_,_,_,_,_,_,_,_,rfl,rfl,hb7,hB7,ry7⟩
 case rest =>
  obtain⟨gb,Y1,y1,Y2,yn,y2,Y3,y3,rfl,rfl,hbc,hkb,ryc⟩:=hcut;obtain⟨w7,hw7⟩:∃w7:World,w7=wc:=⟨_,rfl⟩;subst hw7;have hbl7:=hbl6.trans (hbc.mono hz6);have hz7:=hbl7.size;have hk7:=hk6.kept hbc;have rx7:=rx6.mono RVw.mono (Zaa hbc)
  by_cases hq:(E=0∧0≤B)∨4000<raw.length
  ·clear hkb ryc rx7 hk7 hk6 rx6 r6 rr6
   by_cases e0:E=0
   ·have eb:(E==0)=true:=by simpa using e0
    by_cases b0:0≤B
    ·clear hq e0;go_wp2;go_ret;exact⟨rfl,hbl7⟩
    ·have hL:(4000:Int)<raw.length:=by omega
     clear hq e0;go_wp2;go_ret;exact⟨rfl,hbl7⟩
   ·have eb:(E==0)=false:=by simpa using e0
    have hL:(4000:Int)<raw.length:=by omega
    clear hq e0;go_wp2;go_ret;exact⟨rfl,hbl7⟩
  ·have hL:¬(4000:Int)<raw.length:=by omega
   have hor:(E==0)=false∨(E==0)=true∧¬0≤B:=by
    by_cases e0:E=0
    ·exact .inr ⟨by simpa using e0,by omega⟩
    ·exact .inl (by simpa using e0)
   have hRe:R=run B a:=by
    rw[←hR.out];refine Hlf.out ?_;rw[htk.out (by omega),hE.out];omega
   subst hRe;rw[hAX.out,←Hxm.out]at hkb;have g4:=hk7.cell 2;have g5:=hkb.cell 2;have g6:=hk7.cell 3;have g7:=hkb.cell 3;simp at g4 g5 g6 g7;clear hq hR r6 rr6 hk6 rx6 hAX
   rcases hor with eb|⟨eb,b0⟩
   all_goals
    go_wp2
    go_loopw [17] (fun i wr=>∃j:Nat,j≤4∧i=.int .i64 j∧Below w7.heap.size w7 wr) (fun i _=>4-(intOf i).toNat)
    case atStart=>exact⟨0,by omega,rfl,Below.refl _ _⟩
    case round =>
     obtain⟨j,hj,rfl,hbr⟩:=hrel;have hzr:=hbr.size;have qr:=Zaa hbr
     by_cases hlt:j<4
     ·have g1:=(hk7.kept hbr).cell 0;have g2:=(hkb.kept hbr).cell 0;simp at g1 g2;obtain⟨-,hx⟩:=RVws.at (rx7.mono RVw.mono qr);obtain⟨-,hy⟩:=RVws.at (ryc.mono RVw.mono qr);obtain⟨b1,o1,c1,e1,t1,p1,rfl,x0,xr,xc,xb,xv,xp,rc1,rb1,rv1,rp1⟩:=hx j (by rw[Zes];exact hlt);obtain⟨b2,o2,c2,e2,t2,p2,rfl,y0,yr,yc,yb,yv,yp,rc2,rb2,rv2,rp2⟩:=hy j (by rw[Zes];exact hlt);rw[Zwl]at x0 xr rc1 rb1 rv1 rp1 y0 yr rc2 rb2 rv2 rp2;obtain⟨Q,hQ⟩:∃Q,Hid (vwAt (run B a) j=Q):=⟨_,rfl⟩;rw[hQ.out]at y0 yr rc2 rb2 rv2 rp2;have HS:Hid (Same (vwAt (run B a) j) Q):=Lib.hid (by rw[hQ.out];exact Same.refl Q);clear hQ;generalize vwAt (run B a) j=P at *;have hkI:(j:Int)<4:=by omega
      have HXR:=Lib.hid (rng6 x0 xr xc xb xv xp);have HYR:=Lib.hid (rng6 y0 yr yc yb yv yp);have HXC:=Lib.hid (And.intro rc1 (And.intro rb1 (And.intro rv1 rp1)));have HYC:=Lib.hid (And.intro rc2 (And.intro rb2 (And.intro rv2 rp2)));obtain⟨cA1,cc1,rfl,-⟩:=id rc1;obtain⟨bA1,bc1,rfl,-⟩:=id rb1;obtain⟨vA1,vc1,rfl,-⟩:=id rv1;obtain⟨pA1,pc1,rfl,-⟩:=id rp1;obtain⟨cA2,cc2,rfl,-⟩:=id rc2;obtain⟨bA2,bc2,rfl,-⟩:=id rb2;obtain⟨vA2,vc2,rfl,-⟩:=id rv2;obtain⟨pA2,pc2,rfl,-⟩:=id rp2;clear rc1 rb1 rv1 rp1 rc2 rb2 rv2 rp2 hx hy;clear xr xc xb xv xp yr yc yb yv yp x0 y0 g4 g5 g6 g7
      go_wp2_with fail
      refine Zr [] (.q 0 (.q 1 (.q 2 (.q 3 (.q 4 (.q 5 (.q 6 (.q 7 (.q 8 (.q 9 (.l 10 (.q 11 .nil)))))))))))) fun W hS=>?_
      repeat((first|refine pq (h:=⟨_,fun w' hS=>by(have k1:=Zaa hS _ _ g1;have k2:=Zaa hS _ _ g2;go_simp;exact rfl),?_⟩)|refine Zq ?_);simp only[sx])
      refine pl_q (by assumption) rfl rfl ?_;apply Exists.intro;refine⟨fun w' hS=>Zmn 43 _ rfl _ _ rfl _ _ (fun j u hu=>Zaa hS _ _ (HXR.out j u hu)) Tryz.underlying43 rfl (by kernel_rfl),?_⟩;simp only[List.getElem_toArray,List.getElem_cons_zero,List.getElem_cons_succ,Act.put,List.setIfInBounds_toArray,List.set_cons_zero,List.set_cons_succ]
      repeat((first|refine pq (h:=⟨_,fun w' hS=>by(have k1:=Zaa hS _ _ g1;have k2:=Zaa hS _ _ g2;go_simp;exact rfl),?_⟩)|refine Zq ?_);simp only[sx])
      refine pl_q (by assumption) rfl rfl ?_;apply Exists.intro;refine⟨fun w' hS=>Zmn 43 _ rfl _ _ rfl _ _ (fun j u hu=>Zaa hS _ _ (HYR.out j u hu)) Tryz.underlying43 rfl (by kernel_rfl),?_⟩;simp only[List.getElem_toArray,List.getElem_cons_zero,List.getElem_cons_succ,Act.put,List.setIfInBounds_toArray,List.set_cons_zero,List.set_cons_succ]
      repeat(refine Zq ?_;simp only[sx])
      have qW:=Zaa hS;refine Zd fun K hK=>?_
      try simp only[sy]
      go_simp;obtain⟨s1,s2,s3,s4⟩:=HS.out;obtain⟨rc1,rb1,rv1,-⟩:=HXC.out;obtain⟨rc2,rb2,rv2,-⟩:=HYC.out;rw[←s1];refine(Kp.sameKnown_any P.up Q.up P.round _ _ _ _ _ _ _ _ P.certs P.bats P.votes _ (rc1.mono RCrt.mono qW) (rb1.mono RBat.mono qW) (rv1.mono RSlot.mono qW) (by rw[s2];exact rc2.mono RCrt.mono qW) (by rw[s3];exact rb2.mono RBat.mono qW) (by rw[s4];exact rv2.mono RSlot.mono qW) ⟨_,_,_,rfl⟩ ⟨_,_,_,rfl⟩).mono ?_;rintro e w10 ⟨rfl,hb10⟩;clear s1 s2 s3 s4 rc1 rb1 rv1 rc2 rb2 rv2;refine hK.out _ _ (hS.trans (hb10.mono hS.size)) fun hS=>?_
      clear hK K
      try simp only[sx]
      repeat(refine Zq ?_;simp only[sx])
      refine Zah ?_;go_wp2;go_roundw
      case rel=>exact⟨j+1,by omega,by go_num,hbr.trans (hS.mono hzr)⟩
      case measure=>simp[intOf];omega
     ·have hkI:¬(j:Int)<4:=by omega
      have g4:=qr _ _ g4;have g5:=qr _ _ g5;have g6:=qr _ _ g6;have g7:=qr _ _ g7;go_wp2;go_ret;exact⟨rfl,hbl7.trans (hbr.mono hz7)⟩
theorem topForge_open{H:Type}{enc:TypeId×Value→H}(W:World)(hT:Tabs W.cell?){base:Nat}{v1 v2 v3:Value}{d d1 d2 d3:DataW H}{p p1 p2 p3:List MemPlace}(hval:Value.okWide Tryz.prog W .any base 22 v)(h:DataW.Trod enc Tryz.prog W 0 (fun _=>true) true 22 v d p)(hw:∀n∈DataW.weights Tryz.prog 22 d,n≤reachBytes)(hval1:Value.okWide Tryz.prog W .any base 3 v1)(h1:DataW.Trod enc Tryz.prog W 0 (fun _=>true) true 3 v1 d1 p1)(hw1:∀n∈DataW.weights Tryz.prog 3 d1,n≤reachBytes)(hval2:Value.okWide Tryz.prog W .any base 54 v2)(h2:DataW.Trod enc Tryz.prog W 0 (fun _=>true) true 54 v2 d2 p2)(hw2:∀n∈DataW.weights Tryz.prog 54 d2,n≤reachBytes)(hval3:Value.okWide Tryz.prog W .any base 3 v3)(h3:DataW.Trod enc Tryz.prog W 0 (fun _=>true) true 3 v3 d3 p3)(hw3:∀n∈DataW.weights Tryz.prog 3 d3,n≤reachBytes):Calls Tryz.prog 12 #[v,v1,v2,v3] W fun e w'=>e=.returned (.bool true)∧Below W.heap.size W w':=by
 obtain⟨l,hl,hg⟩:=Zsz hval h hw;obtain⟨n,rfl,hn⟩:=Zrm hval1 h1 hw1;obtain⟨raw,hr⟩:=open_bytesD hval2 h2 hw2;obtain⟨m,rfl,hm⟩:=Zrm hval3 h3 hw3;exact topForge_any _ _ l n m raw _ hl hg hn hm hr hT
end Fl
open Fl in
theorem topForge_lifted(os:Os)(started:os.Started)(H:Type)(enc:TypeId×Value→H) :
 ReturnsInHanded {} Tryz.checked os 12 .any (fun w args=>(Rows.topForgeSpec.pre enc Tryz.prog Tryz.f12 [] false w args∧laidMetH Tryz.prog Zvd w)∧sizedMet enc Tryz.prog Tryz.f12 (OpenSpec.ofChange Rows.topForgeSpec) false w args) (Rows.topForgeSpec.post enc Tryz.prog Tryz.f12 false true false false):=by
 refine returnsInHanded_of_change_and (C:=Tryz.checked) (X:=fun w _=>laidMetH Tryz.prog Zvd w) (fun _ _ _ hh h=>h.of_heap hh) own_ started (by kernel_rfl) Tryz.func12
  (ChangeSpec.witness_shaped (enc:=enc) (C:=Tryz.checked) (os:=os) (X:=fun w _=>laidMetH Tryz.prog Zvd w) false (World.doorLaid Tryz.prog 400 os) #[.slice none 0 0,.int .i64 0,.slice none 0 0,.int .i64 0] 8 rfl (World.shaped_of_RefB (by kernel_rfl) (by kernel_rfl)) (by kernel_rfl) (by kernel_rfl) (by kernel_rfl) (Zx4 os _)) ?_
 intro W base args ds gs before hval0 hW _ hsz hL _;have hval:∀(j:Nat) t v,Tryz.f12.params[j]?=some t→args[j]?=some v→Value.okWide Tryz.prog W .any base t v:=hval0;have hW':=hW;obtain⟨p,q,hA,hV,rfl,hfz,hnd⟩:=hW;obtain⟨rfl,rfl⟩:=trodVars_none hV;have hA:DataW.TrodAll enc Tryz.prog W 0 (fun _=>true) true Tryz.f12.params.toList args.toList ds p:=hA;rw[Tryz.params12]at hA hval hsz;obtain⟨v0,v1,v2,v3,d0,d1,d2,d3,p0,p1,p2,p3,rfl,rfl,rfl,h0,h1,h2,h3⟩:=trodAll_four hA;have hs0:∀n∈DataW.weights Tryz.prog _ d0,n≤reachBytes:=fun n hn=>by simpa using List.all_eq_true.1 hsz n (DataW.weights_mem_each (j:=0) rfl rfl n hn)
 have hs1:∀n∈DataW.weights Tryz.prog _ d1,n≤reachBytes:=fun n hn=>by simpa using List.all_eq_true.1 hsz n (DataW.weights_mem_each (j:=1) rfl rfl n hn)
 have hs2:∀n∈DataW.weights Tryz.prog _ d2,n≤reachBytes:=fun n hn=>by simpa using List.all_eq_true.1 hsz n (DataW.weights_mem_each (j:=2) rfl rfl n hn)
 have hs3:∀n∈DataW.weights Tryz.prog _ d3,n≤reachBytes:=fun n hn=>by simpa using List.all_eq_true.1 hsz n (DataW.weights_mem_each (j:=3) rfl rfl n hn)
 refine(topForge_open W (Zzg hL) (hval 0 _ _ rfl rfl) h0 hs0 (hval 1 _ _ rfl rfl) h1 hs1 (hval 2 _ _ rfl rfl) h2 hs2 (hval 3 _ _ rfl rfl) h3 hs3).mono fun e W' ⟨he,hb⟩=>?_
 exact Zva Zzk (b:=4) rfl Tryz.underlying4 rfl (Zur _ (by kernel_rfl)) rfl hW' he hb
theorem topForge_holds:Rows.TopForgeSaid :=
 OpenClaim.holds_of_wide 12 Tryz.f12 rfl rfl rfl rfl rfl rfl rfl ⟨rfl,rfl,rfl,rfl,rfl⟩ rfl rfl rfl rfl rfl (by kernel_rfl) Tryz.func12 (by kernel_rfl)
  (of_decide_eq_true (by kernel_rfl)) (by unfold Func.isWrapper;first|(rw[if_pos (by decide +kernel)];kernel_rfl)|(rw[if_neg (by decide +kernel)];exact⟨rfl,rfl⟩))
  (fun os started H enc _=>topForge_lifted os started H enc)
theorem topForge_card:Rows.TopForgeCardSaid :=
 Claim7.holds_tied_plain_at .later [] [.widerDeep,.data,.data] true Rows.topForgeCard.stood.harness false
  topForge_holds (fun _ h=>by cases h) (by kernel_rfl) (fun _ h=>by cases h) topForge_row_tie rfl ⟨rfl,rfl⟩ (by kernel_rfl) rfl
  (fun f fn hf hfn=>by
   obtain rfl : f = 12 := Option.some.inj ((show Tryz.prog.funcNamed "sheaves/sheavestop.TopForge" = some 12 by kernel_rfl).symm.trans hf) |>.symm
   obtain rfl:fn=Tryz.f12:=(Option.some.inj (Tryz.func12.symm.trans hfn)).symm
   exact⟨by kernel_rfl,fun j t ht=>by
    have hall:(Tryz.f12.params.toList.all fun u=> !Tryz.prog.wantsStandIn u)=true:=by kernel_rfl
    have:=List.all_eq_true.1 hall t (by simpa using Array.mem_of_getElem? ht)
    exact(show Tryz.prog.wantsStandIn t=false by simpa using this)⟩)
  (by kernel_rfl)
end Go.Proofs.YtinibgklgehdpaaGreatDoor
