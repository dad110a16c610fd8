/- A part of what the last text stands on. -/
import Derived.Test.YtinibgklgehdpaaGreatDoorK10
import Derived.Test.YtinibgklgehdpaaGreatDoorK16
import Derived.Test.YtinibgklgehdpaaGreatDoorK18
namespace Go.Proofs.YtinibgklgehdpaaGreatDoor
open Go.ChangeShapes Go.WideShapes Go.ChangeAt Go.RowKit Qa Qb Qc
set_option linter.all false
set_option maxHeartbeats 20000000
set_option maxRecDepth 100000
variable{w w' W:World}{v u:Value}{h:View}{e:TypeId}{i g sz b:Nat}{n:Fl.Nd}{α:Type}{xs:List α}{R:View→List Value→α→Prop}
theorem Zgl(vl:Value)(l:List Slot)(h:Hdr)(vb vp:Value)(w:World)(hl:RSlots w.cell? vl l)(hb:RDigs w.cell? vb h.batches)(hp:RDigs w.cell? vp h.parents)(hT:Tabs w.cell?) :
 Calls Tryz.prog 164 #[vl,.agg #[.int .i64 h.author,.int .i64 h.round,vb,vp]] w fun e w'=>∃d sd,e=.returned (.tuple #[d,.agg #[.int .i64 (Zcy l h).author,.int .i64 (Zcy l h).round,sd],.int .i64 (Ze2 l h)])∧Below w.heap.size w w'∧OwnSl 3 (RFrom w.heap.size RSlot) 61 w' w.heap.size d (Zc4 l h)∧Zao (View.from (View.but w'.cell? d.ownBlock) w.heap.size) sd (Zcy l h).digest:=by
 obtain⟨A,c,rfl,hf0⟩:=id hl;obtain⟨bA,bc,rfl,hf1⟩:=id hb;obtain⟨pA,pc,rfl,hf2⟩:=id hp;clear hf0 hf1 hf2;obtain⟨QE,hQE⟩:∃q,Hid (Ze2 l h=q):=⟨_,rfl⟩;obtain⟨QL,hQL⟩:∃q,Hid (Zc4 l h=q):=⟨_,rfl⟩;obtain⟨QS,hQS⟩:∃q,Hid (Zcy l h=q):=⟨_,rfl⟩;have hE0:Hid (QE=if Zdb l≠0 then Zdb l else if hF h≠0 then hF h else if 0≤Zb1 l h.author h.round then(match l[(Zb1 l h.author h.round).toNat]? with|some s=>if s.digest==hD h then 0 else 7|none=>7)else if 400≤l.length then 6 else 0):=hQE.out.symm;have hL0:Hid (QL=if QE=0 then(if 0≤Zb1 l h.author h.round then l else l++[Zcj h])else []):=by show _=_;rw[←hQL.out];unfold Zc4;rw[hQE.out]
 have hS0:Hid (QS=if QE=0 then Zcj h else⟨0,0,[]⟩):=by show _=_;rw[←hQS.out];unfold Zcy;rw[hQE.out]
 have htab:Hid (Zdb l=0→l.length≤400):=Zt9;have hsl:Hid ((Zcj h).author=h.author∧(Zcj h).round=h.round∧(Zcj h).digest=hD h):=⟨rfl,rfl,rfl⟩;rw[hQE.out,hQL.out,hQS.out];clear hQE hQL hQS;obtain⟨E1,hE1⟩:∃q,Hid (Zdb l=q):=⟨_,rfl⟩;obtain⟨E2,hE2⟩:∃q,Hid (hF h=q):=⟨_,rfl⟩;rw[hE1.out,hE2.out]at hE0;rw[hE1.out]at htab
 have bad:∀(w1:World) (v:Int) (hne:v≠0) (hE:Hid (QE=v)) (hbl:Below w.heap.size w w1),Hid (∃d sd,Ending.returned (.tuple #[.slice none 0 0,.agg #[.int .i64 0,.int .i64 0,.slice none 0 0],.int .i64 v])=Ending.returned (.tuple #[d,.agg #[.int .i64 QS.author,.int .i64 QS.round,sd],.int .i64 QE])∧Below w.heap.size w w1∧OwnSl 3 (RFrom w.heap.size RSlot) 61 w1 w.heap.size d QL∧Zao (View.from (View.but w1.cell? d.ownBlock) w.heap.size) sd QS.digest):=fun w1 v hne hE hbl=>by
  have h1:QS=⟨0,0,[]⟩:=by rw[hS0.out,if_neg (by rw[hE.out];exact hne)]
  have h2:QL=[]:=by rw[hL0.out,if_neg (by rw[hE.out];exact hne)]
  refine⟨.slice none 0 0,.slice none 0 0,?_,hbl,?_,?_⟩
  ·rw[hE.out,h1]
  ·rw[h2];exact OwnSl.nil _ _ _ _ _
  ·rw[h1];exact RVec.nil _ _ _
 go_enter Tryz.func164,Tryz.ntmps164
 go_upto_region 1 with fail
 refine Za6 _ _ _ _ _ (fun W=>Code.wp _ _ _ _ W) (fun W hk1 hk2 hsz hbW=>?_);have hszI:w.heap.size+2≤W.heap.size:=by omega
 clear hsz;have hzW:=hbW.size
 go_wp2_with fail
 refine(Zly _ l _ (hl.mono RSlot.mono (Zaa hbW))).mono ?_;rintro e w1 ⟨rfl,hb1⟩;rw[hE1.out];have hbl1:=hbW.trans (hb1.mono hzW);have hk11:=hk1.kept hb1;have hk21:=hk2.kept hb1;have hz1:=hbl1.size
 by_cases h1:E1=0
 rotate_left
 ·have HE:Hid (QE=E1):=by show _=_;rw[hE0.out];simp[h1]
  go_upto_region 3 with fail
  go_wp2_with (refine Zj 3 hk21 ?_)
  intro wz hBz hgz;have hfin:=bad wz E1 h1 HE (Zab hbl1 hz1 hgz (by intro k e;injection e;omega));clear hE0 hL0 hS0 bad;go_wp2;refine bodyPost_ret (Zbo rfl rfl (by kernel_rfl) (by kernel_rfl) hBz rfl) rfl ?_;exact hfin.out
 have htl:=Lib.hid (htab.out h1);replace hE0:Hid (QE=if E2≠0 then E2 else if 0≤Zb1 l h.author h.round then(match l[(Zb1 l h.author h.round).toNat]? with|some s=>if s.digest==hD h then 0 else 7|none=>7)else if 400≤l.length then 6 else 0):=by show _=_;rw[hE0.out];simp[h1]
 clear htab hE1 hk1 hk2;subst h1;have q1:=Zaa hbl1;have g0:=hk11.cell 0;have g1:=hk11.cell 1;have g2:=hk11.cell 2;have g3:=hk11.cell 3;simp at g0 g1 g2 g3
 go_wp2_with fail
 refine(Zbx _ _ _ _ h.batches h.parents _ (hb.mono RDig.mono q1) (hp.mono RDig.mono q1) (hT.mono q1)).mono ?_;rintro e w2 ⟨vd,rfl,hb2,rd⟩;have hRd:Hid (E2=0→Zi4 h.author h.round h.batches h.parents=(Zcj h).digest):=fun h0=>if_pos (show hF h=0 by rw[hE2.out];exact h0)
 rw[show Zb3 h.author h.round h.batches h.parents=E2 from hE2.out];have hbl2:=hbl1.trans (hb2.mono hz1);have hk12:=hk11.kept hb2;have hk22:=hk21.kept hb2;have hz2:=hbl2.size;have hsz2:w.heap.size+2≤w2.heap.size:=by have:=hb1.size;have:=hb2.size;omega
 clear g0 g1 g2 g3 q1 hk11 hk21
 by_cases h2:E2=0
 rotate_left
 ·have HE:Hid (QE=E2):=by show _=_;rw[hE0.out];simp[h2]
  go_upto_region 6 with fail
  go_wp2_with (refine Zj 3 hk22 ?_)
  intro wz hBz hgz;have hfin:=bad wz E2 h2 HE (Zab hbl2 hz2 hgz (by intro k e;injection e;omega));clear hE0 hL0 hS0 bad;go_wp2;refine bodyPost_ret (Zbo rfl rfl (by kernel_rfl) (by kernel_rfl) hBz rfl) rfl ?_;exact hfin.out
 rw[hRd.out h2]at rd;replace hE0:Hid (QE=if 0≤Zb1 l h.author h.round then(match l[(Zb1 l h.author h.round).toNat]? with|some s=>if s.digest==(Zcj h).digest then 0 else 7|none=>7)else if 400≤l.length then 6 else 0):=by show _=_;rw[hE0.out,if_neg (by simp[h2])];rfl
 clear hRd hE2;subst h2;generalize Zcj h=S at *;have hl2:=hl.mono RSlot.mono (Zaa hbl2);have r2:=rd.mono (View.from_le _ _);obtain⟨dA,dc,rfl,hfd⟩:=id r2;clear hfd;have hszw1:w.heap.size+2≤w1.heap.size:=by have:=hb1.size;omega
 obtain⟨_,hn1,hn2,hel⟩:=RSlots.at hl2;have Hel:=Lib.hid hel;clear hel;have HS1:=hsl.out.1;have HS2:=hsl.out.2.1;rw[←HS1,←HS2]at hk12;clear HS1 HS2
 go_wp2_with fail
 go_loopw [10,12,32] (fun v _ i wr=>∃k:Nat,k≤l.length∧i=.int .i64 k∧OwnSl 3 (RFrom w2.heap.size RSlot) 61 wr w2.heap.size v (l.take k)∧Below w2.heap.size w2 wr) (fun _ _ i _=>l.length-(intOf i).toNat)
 case atStart=>exact⟨0,Nat.zero_le _,rfl,OwnSl.nil _ _ _ _ _,Below.refl _ _⟩
 case round =>
  obtain⟨k,hk,rfl,hown,hbl⟩:=hrel;have hbs:=hbl.size
  by_cases hlt:k<l.length
  ·obtain⟨b0,o0,vd,rfl,q0,q1,q2,rdk⟩:=Hel.out k hlt;have c0:=Zaa hbl _ _ q0;have c1:=Zaa hbl _ _ q1;have c2:=Zaa hbl _ _ q2;have rd':=rdk.mono (Zaa hbl);have Hn:=Lib.hid (List.take_succ_eq_append_getElem hlt);have Hlk:=Lib.hid (show(l.take k).length=k by simp;omega);have hdl:=Lib.hid (show l[k].digest.length*1≤140737488355328 from rdk.len);obtain⟨E1A,E1c,rfl,hg1⟩:=id rdk;clear q0 q1 q2 rdk hg1;generalize l.take k=L at hown Hn Hlk;generalize l[k]=y at *
   go_upto_region 11 with fail
   refine Zo fun W2 hX hsX hbX=>?_
   have hbX2:=hbl.trans (hbX.mono hbs);have hown2:=hown.kept (RFrom.mono RSlot.mono) hbX;have hlto:=hown.lt;have rd2:=rd'.mono (Zaa hbX);have hzX:=hbX.size;obtain⟨nA,nc,rfl⟩:=hown2.form;clear c0 c1 c2 rd' hsX hown;refine Zt (fun w'=>Below W2.heap.size W2 w') (fun w'=>Blk w' wr.heap.size 61 #[.int .i64 y.author,.int .i64 y.round,.slice E1A y.digest.length E1c]) [11] (.q 0 (.q 1 (.q 2 (.q 3 (.q 4 (.q 5 (.q 6 (.l 7 (.q 8 (.l 9 (.l 10 (.qc 11 .nil)))))))))))) ?_ ?_
   ·exact⟨Zad _,hX.kept (Zad _)⟩
   intro W3 hS3 hS0
   repeat((first|refine pq (h:=⟨_,fun w' hS=>by(have hx:=hS;have x0:=hx.cell 0;have x1:=hx.cell 1;have x2:=hx.cell 2;simp at x0 x1 x2;go_simp;exact rfl),?_⟩)|refine Zq ?_);simp only[sx])
   refine Zd fun K hK=>?_
   try simp only[sy]
   go_simp;refine(Zci _ y.digest _ (rd2.mono (Zaa hS3))).mono ?_;rintro e w4 ⟨td,rfl,hb4,o4⟩;have hS4:=hS3.trans (hb4.mono hS3.size);have hown4:=hown2.kept (RFrom.mono RSlot.mono) hS4;have hX4:=hX.kept hS4;have hz3:=hS3.size;have hz4:=hS4.size
   have rR:RFrom w2.heap.size RSlot (View.but w4.cell? (Value.slice nA L.length nc).ownBlock) [.int .i64 y.author,.int .i64 y.round,td] y :=
    ⟨_,rfl,o4.reads_from hdl.out (by omega) (fun g hg=>by have:=(hlto g hg).2;omega)⟩
   obtain⟨A1,c1',rfl⟩:=o4.form;clear o4;refine hK.out _ _ (hX4) fun hS=>?_
   clear hK K
   try simp only[sx]
   repeat(refine Zq ?_;simp only[sx])
   refine Zd fun K hK=>?_
   try simp only[sy]
   go_simp;have hb5:=Zac w4 (.cells #[.int .i64 y.author,.int .i64 y.round,.slice A1 y.digest.length c1'] 61);refine hK.out _ _ (hX4.kept hb5) fun hS=>?_
   clear hK K
   try simp only[sx]
   repeat(refine Zq ?_;simp only[sx])
   refine Zd fun K hK=>?_
   try simp only[sy]
   refine Zbg (n:=140737488355328) (RFrom.mono RSlot.mono) y [.int .i64 y.author,.int .i64 y.round,.slice A1 y.digest.length c1'] Zj4 _ _ rfl rfl hown4 (W:=w4) (Below.refl _ _) (by omega) rfl rfl rfl rfl rR (Nat.le_refl _) (by rw[Hlk.out];omega) (by rw[Hlk.out];omega) (fun v2 w6 ho6 hb6 hg6=>?_);have hX6:=hX4.grown hg6 (fun e=>by have:=(hlto _ e.symm).2;omega);rw[←Hn.out]at ho6;have hbl6:Below w2.heap.size w2 w6:=Zab (hbX2.trans (hS4.mono hbX2.size)) (by have:=hbX2.size;omega) hg6 (fun q hq=>by have:=(hlto q hq).1;omega);refine hK.out _ _ (hX6) fun hS=>?_
   clear hK K
   try simp only[sx]
   repeat(refine Zq ?_;simp only[sx])
   refine Zah ?_;clear hX4 hX6 hown4 rR hb5 hS3 hS4 hown2 hX hg6;go_wp2;go_roundw
   case rel=>exact⟨k+1,by omega,by go_num,ho6,hbl6⟩
   case measure=>simp[intOf];omega
  ·have hkl:k=l.length:=by omega
   rw[hkl,List.take_length]at hown;obtain⟨nA,nc,rfl⟩:=hown.form;clear Hel hkl;have hk13:=hk12.kept hbl;have hk23:=hk22.kept hbl;have hbl3:=hbl2.trans (hbl.mono hz2);have g0:=hk13.cell 0;have g1:=hk13.cell 1;simp at g0 g1
   go_upto_region 14 with fail
   refine Zo fun W4 hX hsX hbX=>?_
   have hbl4:=hbl3.trans (hbX.mono hbl3.size);have hown4:=hown.kept (RFrom.mono RSlot.mono) hbX;have hlto:=hown.lt;have hk14:=hk13.kept hbX;have hk24:=hk23.kept hbX;have hz4:=hbl4.size;have hz34:=hbX.size;clear g0 g1 hsX hk13 hk23 hown hk12 hk22;have g0:=hk14.cell 0;have g1:=hk14.cell 1;simp at g0 g1
   go_wp2_with fail
   refine(Zrs _ l S.author S.round _ (hl.mono RSlot.mono (Zaa hbl4))).mono ?_;rintro e w5 ⟨rfl,hb5⟩;have hbl5:=hbl4.trans (hb5.mono hz4);have hz5:=hbl5.size;have hz45:=hb5.size;have hk15:=hk14.kept hb5;have hk25:=hk24.kept hb5;have hX5:=hX.kept hb5;have hown5:=hown4.kept (RFrom.mono RSlot.mono) hb5;have hl5:=hl.mono RSlot.mono (Zaa hbl5);have r5:=r2.mono (Zaa (hbl.trans ((hbX.trans (hb5.mono hbX.size)).mono hbs)));obtain⟨_,_,_,hel⟩:=RSlots.at hl5;have Hel:=Lib.hid hel;clear hel g0 g1 hk14 hk24 hX hown4 hl2 r2;rw[←hsl.out.1,←hsl.out.2.1]at hE0 hL0
   rcases Zos l S.author S.round with hneg|⟨j,hj,hpos⟩
   ·rw[hneg];replace hE0:Hid (QE=if 400≤l.length then 6 else 0):=by show _=_;rw[hE0.out,hneg];rfl
    replace hL0:Hid (QL=if QE=0 then l++[S]else []):=by show _=_;rw[hL0.out,hneg];rfl
    clear hneg
    by_cases hful:l.length=400
    ·have HE:Hid (QE=6):=by show _=_;rw[hE0.out,if_pos (by omega)]
     have hful':(l.length:Int)=400:=by omega
     obtain⟨nl,hnl⟩:∃n,Hid (l.length=n):=⟨_,rfl⟩;rw[hnl.out]at hful hful';subst hful;rw[hnl.out]
     go_upto_region 18 with fail
     go_wp2_with (refine Zj 3 hk25 ?_)
     intro wz hBz hgz;have hfin:=bad wz 6 (by decide) HE (Zab hbl5 hz5 hgz (by intro k e;injection e;omega));clear hE0 hL0 hS0 bad;go_wp2;refine bodyPost_ret (Zbo rfl rfl (by kernel_rfl) (by kernel_rfl) hBz rfl) rfl ?_;exact hfin.out
    have HE:Hid (QE=0):=by show _=_;rw[hE0.out,if_neg (by have:=htl.out;omega)]
    have HL:Hid (QL=l++[S]):=by show _=_;rw[hL0.out,if_pos HE.out]
    have HQ:Hid (QS=S):=by show _=_;rw[hS0.out,if_pos HE.out]
    have hful':¬(l.length:Int)=400:=by omega
    clear hE0 hL0 hS0 bad hful
    go_upto_region 20 with fail
    refine Zt (fun w'=>Below w5.heap.size w5 w') (fun w'=>Blk w' w.heap.size 51 #[.int .i64 S.author,.int .i64 S.round,.slice bA h.batches.length bc,.slice pA h.parents.length pc]) [10] (.q 0 (.q 1 (.q 2 (.q 3 (.q 4 (.q 5 (.l 6 (.q 7 (.l 8 (.l 9 (.qc 10 .nil))))))))))) ?_ ?_
    ·exact⟨Zad _,hk15.kept (Zad _)⟩
    intro W3 hS3 hS0
    repeat((first|refine pq (h:=⟨_,fun w' hS=>by(have hx:=hS;have x0:=hx.cell 0;have x1:=hx.cell 1;simp at x0 x1;go_simp;exact rfl),?_⟩)|refine Zq ?_);simp only[sx])
    refine Zd fun K hK=>?_
    try simp only[sy]
    go_simp;refine(Zci _ S.digest _ (r5.mono (Zaa hS3))).mono ?_;rintro e w6 ⟨td,rfl,hb6,o6⟩;have hS6:=hS3.trans (hb6.mono hS3.size);have hown6:=hown5.kept (RFrom.mono RSlot.mono) hS6;have hk16:=hk15.kept hS6;have hz3:=hS3.size;have hz6:=hS6.size;have hbs2:=hbl.size;have hdl:=Lib.hid (show S.digest.length*1≤140737488355328 from r5.len)
    have rR:RFrom w2.heap.size RSlot (View.but w6.cell? (Value.slice nA l.length nc).ownBlock) [.int .i64 S.author,.int .i64 S.round,td] S :=
     ⟨_,rfl,o6.reads_from hdl.out (by omega) (fun g hg=>by have:=(hlto g hg).2;omega)⟩
    obtain⟨A1,c1',rfl⟩:=o6.form;clear o6;refine hK.out _ _ (hk16) fun hS=>?_
    clear hK K
    try simp only[sx]
    repeat(refine Zq ?_;simp only[sx])
    refine Zd fun K hK=>?_
    try simp only[sy]
    go_simp;have hb7:=Zac w6 (.cells #[.int .i64 S.author,.int .i64 S.round,.slice A1 S.digest.length c1'] 61);refine hK.out _ _ (hk16.kept hb7) fun hS=>?_
    clear hK K
    try simp only[sx]
    repeat(refine Zq ?_;simp only[sx])
    refine Zd fun K hK=>?_
    try simp only[sy]
    refine Zbg (n:=140737488355328) (RFrom.mono RSlot.mono) S [.int .i64 S.author,.int .i64 S.round,.slice A1 S.digest.length c1'] Zj4 _ _ rfl rfl hown6 (W:=w6) (Below.refl _ _) (by omega) rfl rfl rfl rfl rR (Nat.le_refl _) (by have:=htl.out;omega) (by have:=htl.out;omega) (fun v2 w8 ho8 hb8 hg8=>?_);have hk28:=(hk25.kept hS6).grown hg8 (fun e=>by have:=(hlto _ e.symm).1;omega);have hk18:=hk16.grown hg8 (fun e=>by have:=(hlto _ e.symm).1;omega);have hX8:=(hX5.kept hS6).grown hg8 (fun e=>by have:=(hlto _ e.symm).2;omega);have hbl25:=hbl.trans ((hbX.trans (hb5.mono hbX.size)).mono hbs);have hbl8:Below w.heap.size w w8:=Zab (hbl5.trans (hS6.mono hz5)) (by omega) hg8 (fun q hq=>by have:=(hlto q hq).1;omega);have hbl28:Below w2.heap.size w2 w8:=Zab (hbl25.trans (hS6.mono hbl25.size)) (by omega) hg8 (fun q hq=>(hlto q hq).1);obtain⟨N,hN⟩:∃N,Hid ((l++[S]).length=N):=⟨_,rfl⟩;have hNl:(l++[S]).length*40≤140737488355328:=by have:=htl.out;simp;omega
    obtain⟨mA,mc,hv2⟩:=ho8.form;rw[hN.out]at hv2;subst hv2;refine hK.out _ _ (hk18) fun hS=>?_
    clear hK K
    try simp only[sx]
    repeat(refine Zq ?_;simp only[sx])
    refine Zah ?_;clear hk15 hk16 rR hb7 hS3 hS6 hb6 hb8 hg8 hown6 hown5 hk18
    go_upto_region 21 with fail
    refine Zr [3,4] (.q 0 (.q 1 (.q 2 (.l 3 (.qc 4 .nil))))) fun W9 hS9=>?_
    repeat((first|refine pq (h:=⟨_,fun w' hS=>by(have hx:=hX8.kept hS;have x0:=hx.cell 0;have x1:=hx.cell 1;have x2:=hx.cell 2;simp at x0 x1 x2;go_simp;exact rfl),?_⟩)|refine Zq ?_);simp only[sx])
    refine Zc fun K hK=>?_
    try simp only[sy]
    refine Zh 3 (hk28.kept hS9) ?_;intro w10 hB10 hg10;have hB10:Blk w10 (w.heap.size+1) 61 #[.int .i64 S.author,.int .i64 S.round,.slice dA S.digest.length dc]:=hB10;have hszA:=hb1.size;have hszB:=hb2.size;have ho10:=(ho8.kept (RFrom.mono RSlot.mono) hS9).low RSlot.mono hg10 (by omega);have hbl9:=hbl8.trans (hS9.mono (hbl8).size);have hbl10:Below w.heap.size w w10:=Zab hbl9 hbl9.size hg10 (by intro k e;injection e;omega);have hbl29:=hbl28.trans (hS9.mono (hbl28).size);have rd10:=rd.mono (Zh8 (b':=w.heap.size) hbl29 hg10 (by omega) (fun k hk=>(ho10.lt k hk).1) (by omega));have rl10:=ho10.lower RSlot.mono (b':=w.heap.size) (by omega);refine hK.out _ _ ?_;clear hK K
    try simp only[sx]
    repeat(refine Zq ?_;simp only[sx])
    refine Zah ?_;clear hszA hszB rd ho10;go_wp2;refine bodyPost_ret (Zbo rfl rfl (by kernel_rfl) (by kernel_rfl) hB10 rfl) rfl ?_
    exact⟨_,_,by rw[HE.out,HQ.out]<;>rfl,hbl10,by rw[HL.out];exact rl10,by rw[HQ.out];exact rd10⟩
   ·rw[hpos];have hjl':(j:Int)<(l.length:Int):=by omega
    obtain⟨b0,o0,vd,rfl,q0,q1,q2,rj⟩:=Hel.out j hj
    replace hE0:Hid (QE=if l[j].digest==S.digest then 0 else 7):=by
     show _=_;rw[hE0.out,hpos,if_pos (by omega)];simp[List.getElem?_eq_getElem hj]
    replace hL0:Hid (QL=if QE=0 then l else []):=by show _=_;rw[hL0.out,hpos];simp
    clear hpos q0 q1;obtain⟨DE,hDE⟩:∃z,Hid ((l[j].digest==S.digest)=z):=⟨_,Lib.hid rfl⟩;rw[hDE.out]at hE0
    go_wp2_with fail
    refine(Zb6 _ _ _ _ _ rj r5).mono ?_;rintro e w' ⟨rfl,rfl⟩;rw[hDE.out];clear q2 rj;cases DE
    ·have HE:Hid (QE=7):=by show _=_;rw[hE0.out];rfl
     go_upto_region 16 with fail
     go_wp2_with (refine Zj 3 hk25 ?_)
     intro wz hBz hgz;have hfin:=bad wz 7 (by decide) HE (Zab hbl5 hz5 hgz (by intro k e;injection e;omega));clear hE0 hL0 hS0 bad;go_wp2;refine bodyPost_ret (Zbo rfl rfl (by kernel_rfl) (by kernel_rfl) hBz rfl) rfl ?_;exact hfin.out
    ·have HE:Hid (QE=0):=by show _=_;rw[hE0.out];rfl
     have HL:Hid (QL=l):=by show _=_;rw[hL0.out,if_pos HE.out]
     have HQ:Hid (QS=S):=by show _=_;rw[hS0.out,if_pos HE.out]
     have hbl25:=hbl.trans ((hbX.trans (hb5.mono hbX.size)).mono hbs);have hNl:l.length*40≤140737488355328:=by have:=htl.out;omega
     clear hE0 hL0 hS0 bad hDE
     go_upto_region 21 with fail
     refine Zr [3,4] (.q 0 (.q 1 (.q 2 (.l 3 (.qc 4 .nil))))) fun W9 hS9=>?_
     repeat((first|refine pq (h:=⟨_,fun w' hS=>by(have hx:=hX5.kept hS;have x0:=hx.cell 0;have x1:=hx.cell 1;have x2:=hx.cell 2;simp at x0 x1 x2;go_simp;exact rfl),?_⟩)|refine Zq ?_);simp only[sx])
     refine Zc fun K hK=>?_
     try simp only[sy]
     refine Zh 3 (hk25.kept hS9) ?_;intro w10 hB10 hg10;have hB10:Blk w10 (w.heap.size+1) 61 #[.int .i64 S.author,.int .i64 S.round,.slice dA S.digest.length dc]:=hB10;have hszA:=hb1.size;have hszB:=hb2.size;have ho10:=(hown5.kept (RFrom.mono RSlot.mono) hS9).low RSlot.mono hg10 (by omega);have hbl9:=hbl5.trans (hS9.mono (hbl5).size);have hbl10:Below w.heap.size w w10:=Zab hbl9 hbl9.size hg10 (by intro k e;injection e;omega);have hbl29:=hbl25.trans (hS9.mono (hbl25).size);have rd10:=rd.mono (Zh8 (b':=w.heap.size) hbl29 hg10 (by omega) (fun k hk=>(ho10.lt k hk).1) (by omega));have rl10:=ho10.lower RSlot.mono (b':=w.heap.size) (by omega);refine hK.out _ _ ?_;clear hK K
     try simp only[sx]
     repeat(refine Zq ?_;simp only[sx])
     refine Zah ?_;clear hszA hszB rd ho10;go_wp2;refine bodyPost_ret (Zbo rfl rfl (by kernel_rfl) (by kernel_rfl) hB10 rfl) rfl ?_
     exact⟨_,_,by rw[HE.out,HQ.out]<;>rfl,hbl10,by rw[HL.out];exact rl10,by rw[HQ.out];exact rd10⟩
namespace Fl
theorem Zvj{T:Nat×Nat→Prop}{o:Own}(hl:Lim o w)(hb:Below w.heap.size w W)(h0:w.heap.size≤b)(hlt:b<W.heap.size):Fr T o w (mark o b (some (7,b))) W:=by
 have hf:=Fr.of_below (T:=T) hl hb;refine⟨hb.os,hb.tape,hb.output,hb.size,hf.lim.mark hlt (fun k hk=>by injection hk with hk;injection hk with _ hk;exact hk.symm),fun x hx hn=>?_,fun x t' hx hob hT=>⟨t',by rw[Zbz _ _ (by omega)];exact hob,hT⟩⟩;rw[Zbz _ _ (by omega)];exact hf.keep x hx hn
theorem Zis(hR:Mono R){o:Own}{B:Nat}(hl:Lim o w)(hb:Below w.heap.size w w')(hB:w.heap.size≤B)(h:OwnSl sz (RFrom B R) e w' B v xs)(t:Nat×Nat)(h7:∀g k,v.ownBlock=some g→t=(7,k)→k=g) :
 ∃o',Row o' t sz R e w' v xs∧(∀T,Fr T o w o' w')∧VLe (View.from (View.but w'.cell? v.ownBlock) w.heap.size) (Zas o' w')∧(∀b,some b≠v.ownBlock→o' b=o b):=by
 have hlt:=h.lt;cases hv:v.ownBlock with
 |none =>
  refine⟨o,⟨?_,fun g hg=>by rw[hv]at hg;cases hg⟩,fun T=>Fr.of_below hl hb,?_,fun b _=>rfl⟩
  ·obtain⟨css,h1,h2,h3⟩:=(h.base (b':=0) (Nat.zero_le _)).own;refine⟨css,h1,h2,fun i hi=>?_⟩;obtain⟨cs,q1,q2,q3⟩:=h3 i hi;refine⟨cs,q1,q2,hR _ _ _ _ q3 ?_⟩;rw[hv];intro a u hu;exact Zby hl a u (Zbm hB a u hu)
  ·intro a u hu;exact Zby hl a u hu
 |some g =>
  obtain⟨hg1,hg2⟩:=hlt g hv
  have hf:∀T,Fr T o w (mark o g (some t)) w':=fun T=>by
   have hf:=Fr.of_below (T:=T) hl hb;refine⟨hb.os,hb.tape,hb.output,hb.size,hf.lim.mark hg2 (fun k hk=>by injection hk with hk;exact h7 g k hv hk),fun x hx hn=>?_,fun x t' hx hob hT=>⟨t',by rw[Zbz _ _ (by omega)];exact hob,hT⟩⟩;rw[Zbz _ _ (by omega)];exact hf.keep x hx hn
  have hview:VLe (View.from (View.but w'.cell? (some g)) w.heap.size) (Zas (mark o g (some t)) w'):=fun a u hu=>by
   unfold View.from at hu;split at hu
   ·cases hu
   ·rename_i hne;unfold View.but at hu;split at hu
    ·cases hu
    ·rename_i hne2;have hag:a.block≠g:=fun e=>hne2 (by rw[e])
     unfold Zas;rw[Zbz _ _ hag,hl.none a.block (by omega)];simpa using hu
  refine⟨mark o g (some t),⟨?_,fun g' hg'=>by rw[hv]at hg';injection hg' with hg';rw[←hg'];exact Zc7 _ _ _⟩,hf,hview,fun b hb'=>Zbz _ _ (fun e=>hb' (by rw[e]))⟩;obtain⟨css,h1,h2,h3⟩:=(h.base (b':=0) (Nat.zero_le _)).own;refine⟨css,h1,h2,fun i hi=>?_⟩;obtain⟨cs,q1,q2,q3⟩:=h3 i hi;refine⟨cs,q1,q2,hR _ _ _ _ q3 ?_⟩;rw[hv];exact fun a u hu=>hview a u (Zbm hB a u hu)
theorem Zkq(hR:Mono R){o:Own}{t:Nat×Nat}(hl:Lim o w)(h:Row o t sz R e w v xs)(t':Nat×Nat)(h7:t'.1≠7) :
 ∃o',Row o' t' sz R e w v xs∧Fr (fun x=>(x=t∧v.ownBlock≠none)∨x=t') o w o' w:=by
 cases hv:v.ownBlock with
 |none=>exact⟨o,⟨h.own,fun g hg=>by rw[hv]at hg;cases hg⟩,Fr.refl _ hl⟩
 |some g =>
  have hm:=h.mark g hv;have hlt:=h.lt g hv
  have hf:Fr (fun x=>x=t∨x=t') o w (mark o g (some t')) w:=by
   refine⟨rfl,rfl,rfl,Nat.le_refl _,hl.mark hlt (fun k hk=>by injection hk with hk;rw[hk]at h7;exact absurd rfl h7),fun b hb hn=>⟨?_,rfl⟩,fun b x hb hob hT=>?_⟩
   ·by_cases e:b=g
    ·subst e;exact absurd (.inl rfl) (hn t hm)
    ·exact Zbz _ _ e
   ·by_cases e:b=g
    ·subst e;exact⟨t',Zc7 _ _ _,.inr rfl⟩
    ·exact⟨x,by rw[Zbz _ _ e];exact hob,hT⟩
  refine⟨_,⟨?_,fun g' hg'=>by rw[hv]at hg';injection hg' with hg';rw[←hg'];exact Zc7 _ _ _⟩,hf.mono (fun x hx=>hx.imp (fun h=>⟨h,by simp⟩) id)⟩;obtain⟨css,h1,h2,h3⟩:=h.own;refine⟨css,h1,h2,fun i hi=>?_⟩;obtain⟨cs,q1,q2,q3⟩:=h3 i hi;exact⟨cs,q1,q2,hR _ _ _ _ q3 hf.view⟩
def pend(v:Value):Nat×Nat:=(7,v.ownBlock.getD 0)
theorem Zuv(v:Value):∀g k,v.ownBlock=some g→pend v=(7,k)→k=g:=fun g k hv h=>by
 unfold pend at h
 rw[hv]at h
 injection h with _ h
 exact h.symm
theorem Zuw{B:Nat}(h:∀q,v.ownBlock=some q→B≤q)(hn:v.ownBlock≠none):B≤(pend v).2:=by
 cases hv:v.ownBlock with
 |none=>exact absurd hv hn
 |some g=>unfold pend;rw[hv];exact h g hv
theorem NdR.ta2{T:Nat×Nat→Prop}{o o':Own}{v:Vals}(h:NdR o w i n v)(f:Fr T o w o' w')(hT:∀k,k≠3→¬T (i,k)){xs:List Slot}(r:Row o' (i,3) 3 RSlot 61 w' u xs):NdR o' w' i {n with table:=xs } {v with ta:=u } :=
 ⟨h.tx.mono f.view,h.small,h.ba.fr RBat.mono f (hT _ (by decide)),h.di.fr RDig.mono f (hT _ (by decide)),r,h.da.mono RCrt.mono f.view,h.ow.mono f.view,h.mi.mono f.view,h.vo.fr RI.mono f (hT _ (by decide)),h.tp.mono f.view,h.ou.fr RMsgZ.mono f (hT _ (by decide))⟩
theorem Zrg{s:Slot}{vd:Value}(r:Zao h vd s.digest):RMsg h (votM s) (.slice none 0 0) (.slice none 0 0) (.slice none 0 0) vd (.slice none 0 0) (.slice none 0 0) (.slice none 0 0) :=
 ⟨RVec.nil _ _ _,RDigs.nil _,RDigs.nil _,r,RDigs.nil _,RDigs.nil _,RVec.nil _ _ _⟩
theorem Zh9(hg:w.grownBy w' (some g))(hgb:g<b)(q:Option Nat):VLe (View.from (View.but w.cell? q) b) (View.from (View.but w'.cell? q) b):=fun a v e=>by
 unfold View.from at e⊢
 split at e
 ·cases e
 ·rename_i hne
  rw[if_neg hne]
  unfold View.but at e⊢
  split at e
  ·cases e
  ·rename_i hne2
   rw[if_neg hne2]
   exact hg.cell e (by intro h;injection h;omega)
theorem Zwk(i tb g off:Nat)(n:Nd)(h:Hdr)(vb vp:Value)(o:Own)(w:World)(hl:Lim o w)(hi:i<5)(hN:NodeAt o w i tb g off n)(hT:Tabs (Zas o w))(rb:RDigs (Zas o w) vb h.batches)(rp:RDigs (Zas o w) vp h.parents)(ht4:n.table.length≤400) :
 Calls Tryz.prog 143 #[.pointer (some ⟨g,off,none⟩),.agg #[.int .i64 h.author,.int .i64 h.round,vb,vp]] w fun e w'=>∃sd,e=.returned (.tuple #[.agg #[.int .i64 (Zcy n.table h).author,.int .i64 (Zcy n.table h).round,sd],.bool (vote n h).2])∧∃o',NFr i tb g off o w o' w'∧NodeAt o' w' i tb g off (vote n h).1∧Zao (Zas o' w') sd (Zcy n.table h).digest:=by
 obtain⟨hmk,⟨vtx,vba,vdi,vta,vda,vow,vmi,vvo,vtp,vou⟩,hS,hR⟩:=id hN;have hg:=hS.lt;obtain⟨bA,bc,rfl,hf1⟩:=id rb;obtain⟨pA,pc,rfl,hf2⟩:=id rp;clear hf1 hf2;have rta:RSlots w.cell? vta n.table:=hR.ta.reads (bs:=40) RSlot.mono (by omega);obtain⟨taA,tac,hta⟩:=hR.ta.form;have hta:vta=.slice taA n.table.length tac:=hta;subst hta;obtain⟨QE,hQE⟩:∃q,Hid (Ze2 n.table h=q):=⟨_,rfl⟩;obtain⟨QL,hQL⟩:∃q,Hid (Zc4 n.table h=q):=⟨_,rfl⟩;obtain⟨QS,hQS⟩:∃q,Hid (Zcy n.table h=q):=⟨_,rfl⟩
 have hst:Hid (vote n h=if QE≠0 then(n,false)else if n.table.length<QL.length then(if Zfg n (votM QS)=0 then({ kept n (votM QS)with table:=QL },true)else(n,false))else({ n with table:=QL },true)):=by
  show _=_;unfold Fl.vote;rw[hQE.out,hQL.out,hQS.out]
 rw[hst.out,hQS.out];clear hst
 go_enter Tryz.func143,Tryz.ntmps143
 go_upto_region 1 with fail
 refine Za6 _ _ _ _ _ (fun W=>Code.wp _ _ _ _ W) (fun W hk hk4 hsz hb=>?_);have hlo:=Zvj (T:=fun _=>False) hl hb (b:=w.heap.size+1) (by omega) (by omega);have hm7:=Zc7 o (w.heap.size+1) (some (7,w.heap.size+1));have N1:=hN.fr hlo (fun _ h=>h) (fun h=>h);have rb1:=rb.mono RDig.mono hlo.view;have rp1:=rp.mono RDig.mono hlo.view;have T1:=hT.mono hlo.view;have l1:=hlo.lim;have F1:NFr i tb g off o w (mark o (w.heap.size+1) (some (7,w.heap.size+1))) W:=⟨hlo.mono (fun _ h=>h.elim),.of_same fun hg=>hb.block g hg⟩;have s6:=Zaa hb _ _ hS.nd6;simp only at s6;have rta1:=rta.mono RSlot.mono (Zaa hb);clear hS hR rta rb rp hT hN hlo;generalize mark o (w.heap.size+1) (some (7,w.heap.size+1))=o1 at *
 go_cut [6,7,8] (fun tv p e w'=>∃gb sd tA2 tc2,tv=.slice tA2 QL.length tc2∧p=.pointer (some ⟨gb,0,none⟩)∧e=.int .i64 QE∧Blk w' gb 61 #[.int .i64 QS.author,.int .i64 QS.round,sd]∧Below W.heap.size W w'∧W.heap.size≤gb∧some gb≠(Value.slice tA2 QL.length tc2).ownBlock∧OwnSl 3 (RFrom W.heap.size RSlot) 61 w' W.heap.size (.slice tA2 QL.length tc2) QL∧Zao (View.from (View.but w'.cell? (Value.slice tA2 QL.length tc2).ownBlock) W.heap.size) sd QS.digest)
 case first =>
  refine Zr [13] (.q 0 (.q 1 (.q 2 (.q 3 (.q 4 (.alt 5 (.q 6 (.q 7 (.q 8 (.q 9 (.l 10 (.q 11 (.l 12 (.qc 13 .nil)))))))) 10 (.l 5 (.q 6 (.q 7 (.q 8 (.q 9 (.q 11 (.l 12 (.qc 13 .nil)))))))))))))) fun W3 hS3=>?_
  repeat((first|refine pq (h:=⟨_,fun w' hS=>by(have h1:=Zaa hS _ _ s6;have hx:=hk.kept hS;have h2:=hx.cell 0;have h3:=hx.cell 1;have h4:=hx.cell 2;have h5:=hx.cell 3;simp at h2 h3 h4 h5;go_simp;exact rfl),?_⟩)|refine Zq ?_);simp only[sx])
  refine Zcl ?_ ?_
  ·refine Zd fun K hK=>?_
   try simp only[sy]
   go_simp;have q3:=Zaa hS3;refine(Zgl _ n.table h _ _ _ (rta1.mono RSlot.mono q3) ((rb1.mono RDig.mono (Zag _ _)).mono RDig.mono q3) ((rp1.mono RDig.mono (Zag _ _)).mono RDig.mono q3) ((T1.mono (Zag _ _)).mono q3)).mono ?_;rintro e w5 ⟨d5,sd,rfl,hb6,od5,rd5⟩;rw[hQE.out,hQS.out];rw[hQL.out]at od5;rw[hQS.out]at rd5;have hS5:=hS3.trans (hb6.mono hS3.size);obtain⟨A5,c5,rfl⟩:=od5.form;have hlt5:=od5.lt;obtain⟨sA,sc,rfl,hf5⟩:=id rd5;clear hf5;refine hK.out _ _ (hS5) fun hS=>?_
   clear hK K
   try simp only[sx]
   repeat(refine Zq ?_;simp only[sx])
   refine Zd fun K hK=>?_
   try simp only[sy]
   go_simp;have hn6:=Blk.new w5 61 #[.int .i64 0,.int .i64 0,.slice none 0 0];have hb66:=Zac w5 (.cells #[.int .i64 0,.int .i64 0,.slice none 0 0] 61);have hS6:=hS5.trans (hb66.mono hS5.size);have hgbW:=hS5.size;refine hK.out _ _ (hS6) fun hS=>?_
   clear hK K
   try simp only[sx]
   repeat(refine Zq ?_;simp only[sx])
   refine Zd fun K hK=>?_
   try simp only[sy]
   refine Zh 3 hn6 ?_;intro w7 hB7 hg7;have hb57:Below w5.heap.size w5 w7:=Zab hb66 hb66.size hg7 (by intro k e;injection e;omega);have hS7:Below W.heap.size W w7:=hS5.trans (hb57.mono hS5.size);have od7:=(od5.kept (RFrom.mono RSlot.mono) hb57).lower RSlot.mono hS3.size;have rd7:=(rd5.mono (Za0 _ (Zln hb57 _))).mono (Zbm (b':=W.heap.size) hS3.size);refine hK.out _ _ (hS7) fun hS=>?_
   clear hK K
   try simp only[sx]
   repeat(refine Zq ?_;simp only[sx])
   refine Zah ?_
   go_wp2_with fail
   go_meet;exact⟨_,_,A5,c5,rfl,rfl,rfl,hB7,hS7,hgbW,fun e=>by have:=(hlt5 _ e.symm).2;omega,od7,rd7⟩
  ·refine Zd fun K hK=>?_
   try simp only[sy]
   go_simp;have hn6:=Blk.new W3 61 #[.int .i64 0,.int .i64 0,.slice none 0 0];have hb66:=Zac W3 (.cells #[.int .i64 0,.int .i64 0,.slice none 0 0] 61);have hS6:=hS3.trans (hb66.mono hS3.size);have hgbW:=hS3.size;have hz66:W3.heap.size<(W3.alloc (.cells #[.int .i64 0,.int .i64 0,.slice none 0 0] 61)).heap.size:=by simp
   refine hK.out _ _ (hS6) fun hS=>?_
   clear hK K
   try simp only[sx]
   repeat(refine Zq ?_;simp only[sx])
   refine Zd fun K hK=>?_
   try simp only[sy]
   go_simp;have q3:=Zaa hS6;refine(Zgl _ n.table h _ _ _ (rta1.mono RSlot.mono q3) ((rb1.mono RDig.mono (Zag _ _)).mono RDig.mono q3) ((rp1.mono RDig.mono (Zag _ _)).mono RDig.mono q3) ((T1.mono (Zag _ _)).mono q3)).mono ?_;rintro e w5 ⟨d5,sd,rfl,hb6,od5,rd5⟩;rw[hQE.out,hQS.out];rw[hQL.out]at od5;rw[hQS.out]at rd5;have hS5:=hS6.trans (hb6.mono hS6.size);have hn7:=hn6.kept hb6;have hlt5:=od5.lt;obtain⟨A5,c5,rfl⟩:=od5.form;obtain⟨sA,sc,rfl,hf5⟩:=id rd5;clear hf5;refine hK.out _ _ (hS5) fun hS=>?_
   clear hK K
   try simp only[sx]
   repeat(refine Zq ?_;simp only[sx])
   refine Zd fun K hK=>?_
   try simp only[sy]
   refine Zh 3 hn7 ?_;intro w7 hB7 hg7;have hS7:Below W.heap.size W w7:=Zab hS5 hS5.size hg7 (by intro k e;injection e;omega);have od7:=(od5.low RSlot.mono hg7 hz66).lower RSlot.mono (b':=W.heap.size) hS6.size;have rd7:=(rd5.mono (Zh9 hg7 hz66 _)).mono (Zbm (b':=W.heap.size) hS6.size);refine hK.out _ _ (hS7) fun hS=>?_
   clear hK K
   try simp only[sx]
   repeat(refine Zq ?_;simp only[sx])
   refine Zah ?_
   go_wp2_with fail
   go_meet;exact⟨_,_,A5,c5,rfl,rfl,rfl,hB7,hS7,hgbW,fun e=>by have:=(hlt5 _ e.symm).1;omega,od7,rd7⟩
 case rest =>
  obtain⟨gb,sd,tA2,tc2,rfl,rfl,rfl,hB,hbc,hgbW,hgbne,od,rd⟩:=hcut;obtain⟨o2,row2,hfr,hview,ho2⟩:=Zis RSlot.mono l1 hbc (Nat.le_refl _) od (pend (.slice tA2 QL.length tc2)) (Zuv _);have hgt:(Value.slice tA2 QL.length tc2).ownBlock≠none→w.heap.size+2≤(pend (.slice tA2 QL.length tc2)).2:=Zuw fun q hq=>by have:=(od.lt q hq).1;omega
  have f2:=hfr (fun _=>False);have N2:=N1.fr f2 (fun _ h=>h) (fun h=>h);have F2:=F1.step N1.mark f2 (fun _ h=>h.elim) (by omega);have rsd:=rd.mono hview;have hm72:o2 (w.heap.size+1)=some (7,w.heap.size+1):=(ho2 _ (fun e=>by have:=(od.lt _ e.symm).1;omega)).trans hm7;have hgb2:o2 gb=none:=(ho2 gb hgbne).trans (l1.none gb hgbW);have hk42:=hk4.kept hbc;have l2:=f2.lim;obtain⟨hm2,⟨ytx,yba,ydi,yta,yda,yow,ymi,yvo,ytp,you⟩,S2,R2⟩:=id N2;obtain⟨ta2,tac2,hyta⟩:=R2.ta.form;have hyta:yta=.slice ta2 n.table.length tac2:=hyta;subst hyta;have s6:=S2.nd6;have b0:=hB.cell 0;have b1:=hB.cell 1;have b2:=hB.cell 2;simp at b0 b1 b2;simp only at s6;clear S2 R2 N1 rb1 rp1 rta1 T1 l1 F1 hk hk4 f2 hfr hview od rd;obtain⟨sA,sc,rfl,hfs⟩:=id rsd;clear hfs
  by_cases hE:QE=0
  rotate_left
  ·have hEb:(QE==0)=false:=by simpa using hE
   go_wp2_with (refine Zj 3 hk42 ?_)
   intro w4 hB4 hg4;have f4:=Zaq l2 hg4 hm72;go_wp2;refine bodyPost_ret (Zal rfl rfl (by kernel_rfl) (by kernel_rfl) hB4 rfl) rfl ?_;refine⟨_,?_,o2,F2.step hm2 f4 (fun t ht=>.inr ⟨by rw[ht],by rw[ht];exact Nat.le_succ _⟩) (by omega),?_,rsd.mono f4.view⟩
   ·first|rfl|(simp only[hE,ne_eq,not_false_eq_true,if_true];rfl)
   ·have:=N2.fr f4 (fun k e=>by injection e;omega) (by simp)
    first|exact this|(simp only[hE,ne_eq,not_false_eq_true,if_true];exact this)
  subst hE
  by_cases hlen:n.table.length<QL.length
  ·have hlen':(n.table.length:Int)<QL.length:=by omega
   go_wp2_with fail
   refine(Zj0 i tb g off n (votM QS) _ _ _ _ _ _ _ o2 _ l2 hi N2 (Zrg rsd) (fun s hs=>by cases hs)).mono ?_;rintro e w4 ⟨rfl,o4,F34,N4⟩;have hkp:Fl.keep n (votM QS)=if Zfg n (votM QS)=0 then(kept n (votM QS),true)else(n,false):=rfl
   have hnT:∀{q:Nat×Nat},q.1=7→¬(q=(8,tb)∨q.1=i):=fun h7 e=>by
    rcases e with e|e
    ·rw[e]at h7;cases h7
    ·omega
   have hk44:=Zmz hk42 F34.fr hm72 (hnT rfl);have hm74:=Zb5 hk42.lt F34.fr hm72 (hnT rfl);have hB4:=Za3 hB F34.fr hgb2;have hgb4:o4 gb=none:=((F34.fr.keep gb hB.lt (fun t ht=>by rw[hgb2]at ht;cases ht)).1).trans hgb2;have rsd4:=rsd.mono F34.fr.view;have row4:=row2.fr RSlot.mono F34.fr (hnT rfl);have l4:=F34.fr.lim;have F4:=F2.trans F34
   by_cases h4:Zfg n (votM QS)=0
   ·rw[hkp,if_pos h4]at N4⊢;have H4:=Lib.hid h4;clear N2 rsd hB hk42 row2 l2 F2 F34 hkp h4 hnT b0 b1 b2 s6;obtain⟨o5,row5,f5⟩:=Zkq RSlot.mono l4 row4 (i,3) (by simp;omega);obtain⟨hm4,⟨ztx,zba,zdi,zta,zda,zow,zmi,zvo,ztp,zou⟩,S4,R4⟩:=N4
    have hn8:∀{q:Nat×Nat},q.1≠7→q.1≠i→¬((q=pend (.slice tA2 QL.length tc2)∧(Value.slice tA2 QL.length tc2).ownBlock≠none)∨q=(i,3)):=fun h7 hi' e=>by
     rcases e with ⟨e,_⟩|e
     ·exact h7 (by rw[e];rfl)
     ·exact hi' (by rw[e])
    have S5:=S4.fr f5 hm4 (hn8 (by simp) (by simp;omega));have m5:=Zb5 S4.lt f5 hm4 (hn8 (by simp) (by simp;omega))
    have R5:=R4.ta2 f5 (fun k hk e=>by
     rcases e with ⟨e,_⟩|e
     ·have:=congrArg Prod.fst e;simp[pend]at this;(try omega)
     ·injection e with _ e;exact hk e) row5
    have F5:=F4.step hm4 f5 (fun t ht=>by
     rcases ht with ⟨e,hne⟩|e
     ·exact .inr ⟨by rw[e];rfl,by rw[e];have:=hgt hne;omega⟩
     ·exact .inl (by rw[e])) (by omega)
    have l5:=f5.lim;have hgb5:o5 gb=none:=((f5.keep gb hB4.lt (fun t ht=>by rw[hgb4]at ht;cases ht)).1).trans hgb4
    have hm75:o5 (w.heap.size+1)=some (7,w.heap.size+1):=Zb5 hk44.lt f5 hm74 (fun e=>by
     rcases e with ⟨e,hne⟩|e
     ·have:=hgt hne;rw[←e]at this;simp at this;(try omega)
     ·have:=congrArg Prod.fst e;simp at this;try omega)
    have rsd5:=rsd4.mono f5.view
    go_wp2_with (refine Sec.store S5 (i:=6) [.slice tA2 QL.length tc2] (show 6+1≤15 by decide) rfl rfl rfl rfl (by kernel_rfl) rfl rfl ?_)
    intro w6 S6 hg6 h6;have f6:=Zaq l5 hg6 m5;have R6:=R5.fr f6 (fun k e=>by injection e;omega);have F6:=F5.store m5 hg6 h6 (show 6+1≤15 by decide);have S6:=S6.putTa (xs:=QL);have hB6:=Za3 hB4 f6 hgb5;have hk46:=Zmz hk44 f6 hm75 (by simp);have b0:=hB6.cell 0;have b1:=hB6.cell 1;have b2:=hB6.cell 2;simp at b0 b1 b2;have rsd6:=rsd5.mono f6.view
    go_wp2_with (refine Zj 3 hk46 ?_)
    intro w7 hB7 hg7;have f7:=Zaq f6.lim hg7 hm75;have N7:NodeAt o5 w7 i tb g off {kept n (votM QS)with table:=QL }:=NodeAt.fr ⟨m5,_,S6,R6⟩ f7 (fun k e=>by injection e;omega) (by simp);have F7:=F6.step m5 f7 (fun t ht=>.inr ⟨by rw[ht],by rw[ht];exact Nat.le_succ _⟩) (by omega);go_wp2;refine bodyPost_ret (Zal rfl rfl (by kernel_rfl) (by kernel_rfl) hB7 rfl) rfl ?_;simp only[H4.out,if_true];exact⟨_,rfl,o5,F7,N7,rsd6.mono f7.view⟩
   ·rw[hkp,if_neg h4]at N4⊢;have H4:=Lib.hid h4;have b0:=hB4.cell 0;have b1:=hB4.cell 1;have b2:=hB4.cell 2;simp at b0 b1 b2;have hm4:=N4.mark
    go_wp2_with (refine Zj 3 hk44 ?_)
    intro w7 hB7 hg7;have f7:=Zaq l4 hg7 hm74;have N7:=N4.fr f7 (fun k e=>by injection e;omega) (by simp);have F7:=F4.step hm4 f7 (fun t ht=>.inr ⟨by rw[ht],by rw[ht];exact Nat.le_succ _⟩) (by omega);go_wp2;refine bodyPost_ret (Zal rfl rfl (by kernel_rfl) (by kernel_rfl) hB7 rfl) rfl ?_;simp only[h4,if_false];exact⟨_,rfl,o4,F7,N7,rsd4.mono f7.view⟩
  ·have hlen':¬(n.table.length:Int)<QL.length:=by omega
   have N4:=N2;have hk44:=hk42;have hm74:=hm72;have hB4:=hB;have hgb4:=hgb2;have rsd4:=rsd;have row4:=row2;have l4:=l2;have F4:=F2;clear N2 hk42 hm72 hB hgb2 rsd row2 l2 F2;obtain⟨o5,row5,f5⟩:=Zkq RSlot.mono l4 row4 (i,3) (by simp;omega);obtain⟨hm4,⟨ztx,zba,zdi,zta,zda,zow,zmi,zvo,ztp,zou⟩,S4,R4⟩:=N4
   have hn8:∀{q:Nat×Nat},q.1≠7→q.1≠i→¬((q=pend (.slice tA2 QL.length tc2)∧(Value.slice tA2 QL.length tc2).ownBlock≠none)∨q=(i,3)):=fun h7 hi' e=>by
    rcases e with ⟨e,_⟩|e
    ·exact h7 (by rw[e];rfl)
    ·exact hi' (by rw[e])
   have S5:=S4.fr f5 hm4 (hn8 (by simp) (by simp;omega));have m5:=Zb5 S4.lt f5 hm4 (hn8 (by simp) (by simp;omega))
   have R5:=R4.ta2 f5 (fun k hk e=>by
    rcases e with ⟨e,_⟩|e
    ·have:=congrArg Prod.fst e;simp[pend]at this;(try omega)
    ·injection e with _ e;exact hk e) row5
   have F5:=F4.step hm4 f5 (fun t ht=>by
    rcases ht with ⟨e,hne⟩|e
    ·exact .inr ⟨by rw[e];rfl,by rw[e];have:=hgt hne;omega⟩
    ·exact .inl (by rw[e])) (by omega)
   have l5:=f5.lim;have hgb5:o5 gb=none:=((f5.keep gb hB4.lt (fun t ht=>by rw[hgb4]at ht;cases ht)).1).trans hgb4
   have hm75:o5 (w.heap.size+1)=some (7,w.heap.size+1):=Zb5 hk44.lt f5 hm74 (fun e=>by
    rcases e with ⟨e,hne⟩|e
    ·have:=hgt hne;rw[←e]at this;simp at this;(try omega)
    ·have:=congrArg Prod.fst e;simp at this;try omega)
   have rsd5:=rsd4.mono f5.view
   go_wp2_with (refine Sec.store S5 (i:=6) [.slice tA2 QL.length tc2] (show 6+1≤15 by decide) rfl rfl rfl rfl (by kernel_rfl) rfl rfl ?_)
   intro w6 S6 hg6 h6;have f6:=Zaq l5 hg6 m5;have R6:=R5.fr f6 (fun k e=>by injection e;omega);have F6:=F5.store m5 hg6 h6 (show 6+1≤15 by decide);have S6:=S6.putTa (xs:=QL);have hB6:=Za3 hB4 f6 hgb5;have hk46:=Zmz hk44 f6 hm75 (by simp);have b0:=hB6.cell 0;have b1:=hB6.cell 1;have b2:=hB6.cell 2;simp at b0 b1 b2;have rsd6:=rsd5.mono f6.view
   go_wp2_with (refine Zj 3 hk46 ?_)
   intro w7 hB7 hg7;have f7:=Zaq f6.lim hg7 hm75;have N7:NodeAt o5 w7 i tb g off {n with table:=QL }:=NodeAt.fr ⟨m5,_,S6,R6⟩ f7 (fun k e=>by injection e;omega) (by simp);have F7:=F6.step m5 f7 (fun t ht=>.inr ⟨by rw[ht],by rw[ht];exact Nat.le_succ _⟩) (by omega);go_wp2;refine bodyPost_ret (Zal rfl rfl (by kernel_rfl) (by kernel_rfl) hB7 rfl) rfl ?_;exact⟨_,rfl,o5,F7,N7,rsd6.mono f7.view⟩
end Fl
end Go.Proofs.YtinibgklgehdpaaGreatDoor
