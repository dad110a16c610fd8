/- A part of what the last text stands on. -/
import Derived.Deep.DeepCutAuto
import Derived.Deep.CutBlock
import Derived.Test.YtinibgklgehdpaaGreatDoorK07
import Derived.Test.YtinibgklgehdpaaGreatDoorK16
namespace Go.Proofs.YtinibgklgehdpaaGreatDoor
open Go.ChangeShapes Go.WideShapes Go.ChangeAt Go.RowKit Qa Qb Qc
set_option linter.all false
set_option maxHeartbeats 20000000
set_option maxRecDepth 100000
variable{h:View}{i:Nat}{m:Msg}
namespace Fl
theorem Zj0(i tb g off:Nat)(n:Nd)(m:Msg)(vt vb vp vd cb cp cv:Value)(o:Own)(w:World)(hl:Lim o w)(hi:i<5)(hN:NodeAt o w i tb g off n)(hm:RMsg (Zas o w) m vt vb vp vd cb cp cv)(hs:∀s∈m.bat.txs,s.size≤140737488355328) :
 Calls Tryz.prog 140 #[.pointer (some ⟨g,off,none⟩),.agg (msgC m vt vb vp vd cb cp cv)] w fun e w'=>e=.returned (.bool (keep n m).2)∧∃o',NFr i tb g off o w o' w'∧NodeAt o' w' i tb g off (keep n m).1:=by
 obtain⟨hmk,⟨vtx,vba,vdi,vta,vda,vow,vmi,vvo,vtp,vou⟩,hS,hR⟩:=hN;have hg:=hS.lt;have hm0:=hm;obtain⟨⟨tA,tc,rfl⟩,⟨bA,bc,rfl⟩,⟨pA,pc,rfl⟩,⟨dA,dc,rfl⟩,⟨cA,cc,rfl⟩,⟨qA,qc,rfl⟩,⟨vA,vc,rfl⟩⟩:=hm0.forms;have Hs:=Lib.hid hs;clear hm0 hs;obtain⟨QE,hQE⟩:∃q,Hid (Zfg n m=q):=⟨_,rfl⟩;obtain⟨QL,hQL⟩:∃q,Hid (appL n.tl n.ty m=q):=⟨_,rfl⟩;obtain⟨QA,hQA⟩:∃q,Hid (appA n.tl n.ty m=q):=⟨_,rfl⟩
 have hkeep:Hid (keep n m=if QE=0 then({ n with tl:=QL,ty:=QA },true)else(n,false)):=by
  show _=_;unfold Fl.keep kept;rw[hQE.out,hQL.out,hQA.out]
 rw[hkeep.out];clear hkeep;obtain⟨tpA,tpc,htp,_⟩:=id hR.tp;have htp:vtp=.slice tpA n.tl.length tpc:=htp;subst htp;unfold msgC
 go_enter Tryz.func140,Tryz.ntmps140
 go_upto_region 1 with fail
 refine Zo fun W hk hsz hb=>?_
 have hk:=Lib.hid hk;have s11:=Zaa hb _ _ hS.nd11;have s12:=Zaa hb _ _ hS.nd12;simp only at s11 s12;have rtp:=(hR.tp.mono (Zag o w)).mono (Zaa hb);have rm:=(hm.mono (Zag o w)).mono (Zaa hb)
 go_cut [5,6] (fun p e w'=>∃gb A5 c5,p=.pointer (some ⟨gb,0,none⟩)∧e=.int .i64 QE∧Blk w' gb 113 #[.slice A5 QL.length c5,.int .i64 QA]∧Below W.heap.size W w'∧Zao (View.from w'.cell? W.heap.size) (.slice A5 QL.length c5) QL)
 case first =>
  refine Zr [11] (.q 0 (.q 1 (.q 2 (.q 3 (.q 4 (.alt 5 (.q 6 (.q 7 (.q 8 (.l 9 (.l 10 (.qc 11 .nil)))))) 9 (.l 5 (.q 6 (.q 7 (.q 8 (.l 10 (.qc 11 .nil)))))))))))) fun W3 hS3=>?_
  repeat((first|refine pq (h:=⟨_,fun w' hS=>by(have h1:=Zaa hS _ _ s11;have h2:=Zaa hS _ _ s12;go_simp;exact rfl),?_⟩)|refine Zq ?_);simp only[sx])
  refine pl_q (by assumption) rfl rfl ?_;apply Exists.intro;refine⟨fun w' hS=>Zfj 66 _ rfl _ rfl _ _ (0,0) _ (hk.out.kept hS) Tryz.underlying66 rfl (by kernel_rfl),?_⟩;simp only[List.getElem_toArray,List.getElem_cons_zero,List.getElem_cons_succ,Act.put,List.setIfInBounds_toArray,List.set_cons_zero,List.set_cons_succ]
  repeat(refine Zq ?_;simp only[sx])
  refine Zcl ?_ ?_
  ·refine Zd fun K hK=>?_
   try simp only[sy]
   go_simp;refine(Zm1 n.ty _ n.tl m _ _ _ _ _ _ _ _ (rtp.mono (Zaa hS3)) (rm.mono (Zaa hS3)) Hs.out).mono ?_;rintro e w5 ⟨d5,rfl,hb6,rd5⟩;rw[show appE n.tl n.ty m=QE from hQE.out,hQA.out];rw[hQL.out]at rd5;have hS5:=hS3.trans (hb6.mono hS3.size);obtain⟨A5,c5,rfl,hf5⟩:=id rd5;clear hf5;refine hK.out _ _ (hS5) fun hS=>?_
   clear hK K
   try simp only[sx]
   repeat(refine Zq ?_;simp only[sx])
   refine Zd fun K hK=>?_
   try simp only[sy]
   go_simp;have hn6:=Blk.new w5 113 #[.slice none 0 0,.int .i64 0];have hb66:=Zac w5 (.cells #[.slice none 0 0,.int .i64 0] 113);have hS6:=hS5.trans (hb66.mono hS5.size);have hgbW:=hS5.size;refine hK.out _ _ (hS6) fun hS=>?_
   clear hK K
   try simp only[sx]
   repeat(refine Zq ?_;simp only[sx])
   refine Zd fun K hK=>?_
   try simp only[sy]
   refine Zh 2 hn6 ?_;intro w7 hB7 hg7;have hS7:Below W.heap.size W w7:=Zab hS6 hS6.size hg7 (by intro k e;injection e;omega);have rd7:=(rd5.mono (Za0 _ ((Zei hb66 (Nat.le_refl _)).trans (Zbn hg7)))).mono (Zbm (b':=W.heap.size) hS3.size);refine hK.out _ _ (hS7) fun hS=>?_
   clear hK K
   try simp only[sx]
   repeat(refine Zq ?_;simp only[sx])
   refine Zah ?_
   go_wp2_with fail
   go_meet;exact⟨_,A5,c5,rfl,rfl,hB7,hS7,rd7⟩
  ·refine Zd fun K hK=>?_
   try simp only[sy]
   go_simp;have hn6:=Blk.new W3 113 #[.slice none 0 0,.int .i64 0];have hb66:=Zac W3 (.cells #[.slice none 0 0,.int .i64 0] 113);have hS6:=hS3.trans (hb66.mono hS3.size);have hgbW:=hS3.size;refine hK.out _ _ (hS6) fun hS=>?_
   clear hK K
   try simp only[sx]
   repeat(refine Zq ?_;simp only[sx])
   refine Zd fun K hK=>?_
   try simp only[sy]
   go_simp;refine(Zm1 n.ty _ n.tl m _ _ _ _ _ _ _ _ (rtp.mono (Zaa hS6)) (rm.mono (Zaa hS6)) Hs.out).mono ?_;rintro e w5 ⟨d5,rfl,hb6,rd5⟩;rw[show appE n.tl n.ty m=QE from hQE.out,hQA.out];rw[hQL.out]at rd5;have hS5:=hS6.trans (hb6.mono hS6.size);have hn7:=hn6.kept hb6;have hz6:=hb6.size;simp at hz6;obtain⟨A5,c5,rfl,hf5⟩:=id rd5;clear hf5;refine hK.out _ _ (hS5) fun hS=>?_
   clear hK K
   try simp only[sx]
   repeat(refine Zq ?_;simp only[sx])
   refine Zd fun K hK=>?_
   try simp only[sy]
   refine Zh 2 hn7 ?_;intro w7 hB7 hg7;have hS7:Below W.heap.size W w7:=Zab hS5 hS5.size hg7 (by intro k e;injection e;omega);have rd7:=(rd5.mono (Zi5 hg7 (by simp))).mono (Zbm (b':=W.heap.size) hS6.size);refine hK.out _ _ (hS7) fun hS=>?_
   clear hK K
   try simp only[sx]
   repeat(refine Zq ?_;simp only[sx])
   refine Zah ?_
   go_wp2_with fail
   go_meet;exact⟨_,A5,c5,rfl,rfl,hB7,hS7,rd7⟩
 case rest =>
  obtain⟨gb,A5,c5,rfl,rfl,hB,hbc,rd⟩:=hcut;have hbw:=hb.trans (hbc.mono hb.size);have fc:=Fr.of_below (T:=fun _=>False) hl hbw;have Sc:=hS.fr fc hmk (fun h=>h);have Rc:=hR.fr fc (fun _ h=>h);have Fc:NFr i tb g off o w o wc:=(NFr.refl hl).below hbw;have lc:=fc.lim;have rh:=rd.mono (Zby (Zam hl hb));clear s11 s12 rtp rm hS hR hm hk
  by_cases hE:QE=0
  ·subst hE;have b0:=hB.cell 0;have b1:=hB.cell 1;simp at b0 b1
   go_wp2_with (refine Sec.store Sc (i:=11) [.slice A5 QL.length c5,.int .i64 QA] (show 11+2≤15 by decide) rfl rfl rfl rfl (by kernel_rfl) rfl rfl ?_)
   intro w6 S6 hg6 h6;have R6:=(Rc.setTp (y:=QA) rh).fr (Zaq lc hg6 hmk) (fun k e=>by injection e;omega);have F6:=Fc.store hmk hg6 h6 (show 11+2≤15 by decide);go_wp2;go_ret;exact⟨rfl,o,F6,hmk,_,S6.putTp,R6⟩
  ·go_wp2;go_ret
   first|exact⟨rfl,o,Fc,hmk,_,Sc,Rc⟩|(simp only[hE,if_false];exact⟨rfl,o,Fc,hmk,_,Sc,Rc⟩)
theorem Zs7(d x:Value)(y ds:List UInt8)(g:Nat)(w:World)(hc:w.cell? ⟨g,0,none⟩=some x)(hd:Zao w.cell? d y)(hx:Zao w.cell? x ds) :
 Calls Tryz.prog 171 (#[d]++#[.pointer (some ⟨g,0,none⟩)]) w fun e w'=>e=.returned (.bool (y==ds))∧Below w.heap.size w w':=by
 show Calls Tryz.prog 171 #[d,.pointer (some ⟨g,0,none⟩)] w _
 go_enter Tryz.func171,Tryz.ntmps171
 go_wp2_with fail
 refine(Zb6 _ _ y ds _ hd hx).mono ?_;rintro e w' ⟨rfl,rfl⟩;go_wp2;go_ret;exact⟨rfl,Below.refl _ _⟩
theorem Zgt(i tb g off:Nat)(n:Nd)(vd:Value)(d:List UInt8)(o:Own)(w:World)(hN:NodeAt o w i tb g off n)(hd:Zao w.cell? vd d)(h8:n.digs.length≤800) :
 Calls Tryz.prog 139 #[.pointer (some ⟨g,off,none⟩),vd] w fun e w'=>e=.returned (.int .i64 (held n d))∧Below w.heap.size w w':=by
 obtain⟨hmk,⟨vtx,vba,vdi,vta,vda,vow,vmi,vvo,vtp,vou⟩,hS,hR⟩:=hN;have rdi:RDigs w.cell? vdi n.digs:=hR.di.reads (bs:=24) RDig.mono (by omega);obtain⟨A,c,rfl,hform⟩:=id rdi;obtain⟨B,c',rfl,hform'⟩:=id hd;clear hform hform';have hbb:=Zac w (.cells #[.slice B d.length c'] 54);have hdb:=hd.mono (Zaa hbb);have hlb:=rdi.mono RDig.mono (Zaa hbb);have hcb:=(Blk.new w 54 #[.slice B d.length c']).cell 0;have s5:=Zaa hbb _ _ hS.nd5;simp only at s5
 go_enter Tryz.func139,Tryz.ntmps139
 go_wp2_with fail
 refine(Zhk 171 #[.pointer (some ⟨w.heap.size,0,none⟩)] (·==d) (Zdz Tryz.func171 (by kernel_rfl) rfl) _ n.digs _ hlb (fun W x y hW hx=>Zs7 x _ y d _ W (Zaa hW _ _ hcb) hx (hdb.mono (Zaa hW)))).mono ?_;rintro e w1 ⟨rfl,hb1⟩;have hbl:=hbb.trans (hb1.mono hbb.size);have e1:idxI (·==d) n.digs=held n d:=rfl;rw[e1];obtain⟨i,hi⟩:∃i,Hid (held n d=i):=⟨_,rfl⟩;clear hdb hlb hcb hd s5;go_wp2;go_ret;exact⟨rfl,hbl⟩
theorem Zjy{b:Bat}{vt:Value}(r:RTexts h vt b.txs):RMsg h (batM b) vt (.slice none 0 0) (.slice none 0 0) (.slice none 0 0) (.slice none 0 0) (.slice none 0 0) (.slice none 0 0) :=
 ⟨r,RDigs.nil _,RDigs.nil _,RVec.nil _ _ _,RDigs.nil _,RDigs.nil _,RVec.nil _ _ _⟩
theorem Zke(i tb g off:Nat)(n:Nd)(b:Bat)(wr:Bool)(vt:Value)(o:Own)(w:World)(hl:Lim o w)(hi:i<5)(hN:NodeAt o w i tb g off n)(hT:Tabs (Zas o w))(hb:RTexts (Zas o w) vt b.txs)(hs:∀s∈b.txs,s.size≤140737488355328)(h8:n.digs.length≤800)(h9:n.bats.length≤800) :
 Calls Tryz.prog 109 #[.pointer (some ⟨g,off,none⟩),.agg #[.int .i64 b.author,.int .i64 b.number,vt],.bool wr] w fun e w'=>e=.returned (.bool (store n b wr).2)∧∃o',NFr i tb g off o w o' w'∧NodeAt o' w' i tb g off (store n b wr).1:=by
 have hg:=hN.lt;have hmk:=hN.mark;have Hs:=Lib.hid hs;clear hs;obtain⟨vA,vc,rfl,hform⟩:=id hb;clear hform;obtain⟨H,hH⟩:∃q,Hid (held n (bdR b)=q):=⟨_,rfl⟩
 have hst:Hid (store n b wr=if 0≤H∨n.bats.length=800 then(n,false)else if wr then(if Zfg n (batM b)=0 then(put (kept n (batM b)) b,true)else(n,false))else(put n b,true)):=by
  show _=_;unfold Fl.store;rw[hH.out]
 rw[hst.out];clear hst
 go_enter Tryz.func109,Tryz.ntmps109
 go_upto_region 1 with fail
 refine Zo fun W hk hsz hbW=>?_
 have g0:=hk.cell 0;have g1:=hk.cell 1;have g2:=hk.cell 2;simp at g0 g1 g2;have v1:=Zae hl hbW;have l1:=Zam hl hbW;have N1:=hN.below hl hbW;have rb1:=hb.mono v1;have T1:=hT.mono v1
 go_wp2_with fail
 refine(Zjw b.author b.number _ b.txs _ (rb1.mono (Zag _ _)) Hs.out (T1.mono (Zag _ _))).mono ?_;rintro e w2 ⟨dg,rfl,hb2,rd⟩;rw[show Zto b.author b.number b.txs=bdR b from rfl]at rd;have v2:=Zae l1 hb2;have l2:=Zam l1 hb2;have N2:=N1.below l1 hb2;have rb2:=rb1.mono v2;have rd2:=rd.mono (Zby l1);have hk2:=hk.kept hb2;have hbw2:=hbW.trans (hb2.mono hbW.size);have F2:NFr i tb g off o w o w2:=(NFr.refl hl).below hbw2;obtain⟨dA,dc,rfl,hform⟩:=id rd2;clear hform rd hb rb1 T1 N1 v1 g0 g1 g2 hk hN hT;obtain⟨DL,hDL⟩:∃q,Hid ((bdR b).length=q):=⟨_,rfl⟩;rw[hDL.out]at rd2⊢
 go_wp2_with fail
 refine(Zgt i tb g off n _ (bdR b) o _ N2 (rd2.mono (Zag _ _)) h8).mono ?_;rintro e w3 ⟨rfl,hb3⟩;have v3:=Zae l2 hb3;have l3:=Zam l2 hb3;have N3:=N2.below l2 hb3;have rb3:=rb2.mono v3;have rd3:=rd2.mono v3;have hk3:=hk2.kept hb3;have F3:=F2.below hb3;rw[hH.out];clear rb2 rd2 N2 F2 hk2 v2 v3 hbw2 hbW hb2 hb3 l2 l1;obtain⟨hm3,⟨vtx,vba,vdi,vta,vda,vow,vmi,vvo,vtp,vou⟩,S3,R3⟩:=id N3;obtain⟨bA,bc,hvba⟩:=R3.ba.form;have hvba:vba=.slice bA n.bats.length bc:=hvba;subst hvba;have s4:=S3.nd4;simp only at s4
 by_cases h1:0≤H
 ·go_wp2;go_ret;simp only[h1,true_or,if_true];exact⟨rfl,o,F3,N3⟩
 by_cases h2:n.bats.length=800
 ·have h2':(n.bats.length:Int)=800:=by omega
  go_wp2
  all_goals
   go_ret;simp only[h2,or_true,if_true];exact⟨rfl,o,F3,N3⟩
 have h2':¬(n.bats.length:Int)=800:=by omega
 have h2b:((n.bats.length:Int)==800)=false:=by simpa using h2'
 have h12:Hid (¬(0≤H∨n.bats.length=800)):=fun q=>q.elim h1 h2
 have hon:∀{o':Own},True:=fun {_}=>trivial
 cases wr
 ·have N4:=N3;have rb4:=rb3;have rd4:=rd3;have hk4:=hk3;have l4:=l3;have F4:=F3;have o4_none:=hl.none w.heap.size (Nat.le_refl _);obtain⟨w4,hw4⟩:∃w4:World,w4=w3:=⟨_,rfl⟩;subst hw4;clear N3 rb3 rd3 hk3 l3 F3 hm3 R3;obtain⟨hm4,⟨ytx,yba,ydi,yta,yda,yow,ymi,yvo,ytp,you⟩,S4,R4⟩:=N4;obtain⟨bA4,bc4,hyba⟩:=R4.ba.form;have hyba:yba=.slice bA4 n.bats.length bc4:=hyba;subst hyba;obtain⟨dA4,dc4,hydi⟩:=R4.di.form;have hydi:ydi=.slice dA4 n.digs.length dc4:=hydi;subst hydi;have hlt4:=S4.lt
  go_upto_region 4 with fail
  refine Zt (fun w'=>Below w4.heap.size w4 w') (fun w'=>Blk w' w.heap.size 53 #[.int .i64 b.author,.int .i64 b.number,.slice vA b.txs.length vc]∧w'.cell? ⟨g,off+4,none⟩=some (.slice bA4 n.bats.length bc4)) [10] (.q 0 (.q 1 (.q 2 (.q 3 (.q 4 (.q 5 (.l 6 (.l 7 (.q 8 (.q 9 (.l 10 .nil))))))))))) ?_ ?_
  ·exact⟨Zad _,hk4.drew,S4.nd4⟩
  intro W5 hS0 hS;have f5:=Fr.of_below (T:=fun _=>False) l4 hS0;have S5:=S4.fr f5 hm4 (fun h=>h);have R5:=R4.fr f5 (fun _ h=>h);have F5:=F4.below hS0;have rb5:=rb4.mono f5.view;have rd5:=rd4.mono f5.view;have l5:=f5.lim;have hk5:=hS.1
  repeat((first|refine pq (h:=⟨_,fun w' hS=>by(have h0:=hS.2;have hx:=hS.1;have h1:=hx.cell 0;have h2:=hx.cell 1;have h3:=hx.cell 2;simp at h1 h2 h3;go_simp;exact rfl),?_⟩)|refine Zq ?_);simp only[sx])
  refine Zd fun K hK=>?_
  try simp only[sy]
  go_simp;have hb6:=Zac W5 (.cells #[.int .i64 b.author,.int .i64 b.number,.slice vA b.txs.length vc] 53);refine hK.out _ _ (⟨hS.1.kept hb6,Zaa hb6 _ _ hS.2⟩) fun hS=>?_
  clear hK K
  try simp only[sx]
  repeat(refine Zq ?_;simp only[sx])
  refine Zd fun K hK=>?_
  try simp only[sy]
  refine Zce (n:=140737488355328) RBat.mono b [.int .i64 b.author,.int .i64 b.number,.slice vA b.txs.length vc] Zqs _ _ rfl rfl R5.ba l5 (by simp;omega) rfl rfl rfl rfl ⟨_,rfl,rb5,Hs.out⟩ (Nat.le_refl _) (show(n.bats.length+1)*40≤140737488355328 by omega) (show n.bats.length+1≤140737488355328 by omega) (fun v' w6 o6 r6 f6=>?_);have S6:=S5.fr f6 hm4 (by simp;omega);have m6:=Zb5 S5.lt f6 hm4 (by simp;omega);have R6:=R5.ba' f6 r6;have F6:=F5.step hm4 f6 (fun t ht=>.inl (by rw[ht])) (by omega);have rd6:=rd5.mono f6.view;obtain⟨A6,c6,hv6⟩:=r6.form;subst hv6;have hk6:=Za3 hk5 f6 (o4_none);refine hK.out _ _ (⟨hk6,S6.nd4⟩) fun hS=>?_
  clear hK K
  try simp only[sx]
  repeat(refine Zq ?_;simp only[sx])
  refine Zc fun K hK=>?_
  try simp only[sy]
  refine Sec.wp_store S6 (i:=4) [.slice A6 (n.bats++[b]).length c6] (show 4+1≤15 by decide) rfl rfl rfl (by kernel_rfl) rfl rfl ?_;intro w7 S7 hg7 h7;have R7:=R6.fr (Zaq F6.fr.lim hg7 m6) (fun k e=>by injection e;omega);have F7:=F6.store m6 hg7 h7 (show 4+1≤15 by decide);have S7:Sec w7 g off (ndC {n with bats:=n.bats++[b] } _):=S7.putBa;have rd7:=rd6.mono (Zaq F6.fr.lim hg7 m6).view;have s75:=S7.nd5;simp only at s75;refine hK.out _ _ ?_;clear hK K
  try simp only[sx]
  repeat(refine Zq ?_;simp only[sx])
  refine Zah ?_;clear S3 S4 S5 S6 R4 R5 R6 hk4 hk5 hk6 rb4 rb5 rd4 rd5 rd6 l5
  go_wp2_with (at_builtin;go_loud (refine Zcu (n:=140737488355328) RDig.mono (bdR b) [.slice dA DL dc] Zez _ _ rfl rfl rfl R7.di F7.fr.lim (by simp;omega) rfl rfl rfl rfl ⟨_,rfl,rd7⟩ (Nat.le_refl _) (show(n.digs.length+1)*24≤140737488355328 by omega) (show n.digs.length+1≤140737488355328 by omega) ?_))
  intro v' w8 o8 r8 f8;have S8:=S7.fr f8 m6 (by simp;omega);have m8:=Zb5 S7.lt f8 m6 (by simp;omega);have R8:=R7.di' f8 r8;have F8:=F7.step m6 f8 (fun t ht=>.inl (by rw[ht])) (by omega);obtain⟨A8,c8,hv8⟩:=r8.form;subst hv8
  go_wp2_with (refine Sec.store S8 (i:=5) [.slice A8 (n.digs++[bdR b]).length c8] (show 5+1≤15 by decide) rfl rfl rfl rfl (by kernel_rfl) rfl rfl ?_)
  intro w9 S9 hg9 h9;have R9:=R8.fr (Zaq F8.fr.lim hg9 m8) (fun k e=>by injection e;omega);have F9:=F8.store m8 hg9 h9 (show 5+1≤15 by decide);go_wp2;go_ret
  (try simp only[List.length_append,List.length_singleton]at R9 S9)
  exact⟨rfl,o8,F9,m8,_,S9.putDi,R9⟩
 ·have g0:=hk3.cell 0;have g1:=hk3.cell 1;have g2:=hk3.cell 2;simp at g0 g1 g2
  go_wp2_with fail
  refine(Zj0 i tb g off n (batM b) _ _ _ _ _ _ _ o _ l3 hi N3 (Zjy rb3) Hs.out).mono ?_;rintro e w4 ⟨rfl,o4,F34,N4⟩;have hkp:Fl.keep n (batM b)=if Zfg n (batM b)=0 then(kept n (batM b),true)else(n,false):=rfl
  by_cases h4:Zfg n (batM b)=0
  ·rw[hkp,if_pos h4]at N4⊢;have F4:=F3.trans F34;have rb4:=rb3.mono F34.fr.view;have rd4:=rd3.mono F34.fr.view;have ho0:=hl.none w.heap.size (Nat.le_refl _);have hk4:=Za3 hk3 F34.fr ho0;have o4_none:=((F34.fr.keep w.heap.size hk3.lt (fun t ht=>by rw[ho0]at ht;cases ht)).1).trans ho0;have l4:=F34.fr.lim;have H4:=Lib.hid h4;clear N3 rb3 rd3 hk3 l3 F3 hm3 R3 F34 hkp h4;obtain⟨hm4,⟨ytx,yba,ydi,yta,yda,yow,ymi,yvo,ytp,you⟩,S4,R4⟩:=N4;obtain⟨bA4,bc4,hyba⟩:=R4.ba.form;have hyba:yba=.slice bA4 n.bats.length bc4:=hyba;subst hyba;obtain⟨dA4,dc4,hydi⟩:=R4.di.form;have hydi:ydi=.slice dA4 n.digs.length dc4:=hydi;subst hydi;have hlt4:=S4.lt
   go_upto_region 4 with fail
   refine Zt (fun w'=>Below w4.heap.size w4 w') (fun w'=>Blk w' w.heap.size 53 #[.int .i64 b.author,.int .i64 b.number,.slice vA b.txs.length vc]∧w'.cell? ⟨g,off+4,none⟩=some (.slice bA4 n.bats.length bc4)) [10] (.q 0 (.q 1 (.q 2 (.q 3 (.q 4 (.q 5 (.l 6 (.l 7 (.q 8 (.q 9 (.l 10 .nil))))))))))) ?_ ?_
   ·exact⟨Zad _,hk4.drew,S4.nd4⟩
   intro W5 hS0 hS;have f5:=Fr.of_below (T:=fun _=>False) l4 hS0;have S5:=S4.fr f5 hm4 (fun h=>h);have R5:=R4.fr f5 (fun _ h=>h);have F5:=F4.below hS0;have rb5:=rb4.mono f5.view;have rd5:=rd4.mono f5.view;have l5:=f5.lim;have hk5:=hS.1
   repeat((first|refine pq (h:=⟨_,fun w' hS=>by(have h0:=hS.2;have hx:=hS.1;have h1:=hx.cell 0;have h2:=hx.cell 1;have h3:=hx.cell 2;simp at h1 h2 h3;go_simp;exact rfl),?_⟩)|refine Zq ?_);simp only[sx])
   refine Zd fun K hK=>?_
   try simp only[sy]
   go_simp;have hb6:=Zac W5 (.cells #[.int .i64 b.author,.int .i64 b.number,.slice vA b.txs.length vc] 53);refine hK.out _ _ (⟨hS.1.kept hb6,Zaa hb6 _ _ hS.2⟩) fun hS=>?_
   clear hK K
   try simp only[sx]
   repeat(refine Zq ?_;simp only[sx])
   refine Zd fun K hK=>?_
   try simp only[sy]
   refine Zce (n:=140737488355328) RBat.mono b [.int .i64 b.author,.int .i64 b.number,.slice vA b.txs.length vc] Zqs _ _ rfl rfl R5.ba l5 (by simp;omega) rfl rfl rfl rfl ⟨_,rfl,rb5,Hs.out⟩ (Nat.le_refl _) (show(n.bats.length+1)*40≤140737488355328 by omega) (show n.bats.length+1≤140737488355328 by omega) (fun v' w6 o6 r6 f6=>?_);have S6:=S5.fr f6 hm4 (by simp;omega);have m6:=Zb5 S5.lt f6 hm4 (by simp;omega);have R6:=R5.ba' f6 r6;have F6:=F5.step hm4 f6 (fun t ht=>.inl (by rw[ht])) (by omega);have rd6:=rd5.mono f6.view;obtain⟨A6,c6,hv6⟩:=r6.form;subst hv6;have hk6:=Za3 hk5 f6 (o4_none);refine hK.out _ _ (⟨hk6,S6.nd4⟩) fun hS=>?_
   clear hK K
   try simp only[sx]
   repeat(refine Zq ?_;simp only[sx])
   refine Zc fun K hK=>?_
   try simp only[sy]
   refine Sec.wp_store S6 (i:=4) [.slice A6 (n.bats++[b]).length c6] (show 4+1≤15 by decide) rfl rfl rfl (by kernel_rfl) rfl rfl ?_;intro w7 S7 hg7 h7;have R7:=R6.fr (Zaq F6.fr.lim hg7 m6) (fun k e=>by injection e;omega);have F7:=F6.store m6 hg7 h7 (show 4+1≤15 by decide);have S7:Sec w7 g off (ndC {kept n (batM b)with bats:=n.bats++[b] } _):=S7.putBa;have rd7:=rd6.mono (Zaq F6.fr.lim hg7 m6).view;have s75:=S7.nd5;simp only at s75;refine hK.out _ _ ?_;clear hK K
   try simp only[sx]
   repeat(refine Zq ?_;simp only[sx])
   refine Zah ?_;clear S3 S4 S5 S6 R4 R5 R6 hk4 hk5 hk6 rb4 rb5 rd4 rd5 rd6 l5
   go_wp2_with (at_builtin;go_loud (refine Zcu (n:=140737488355328) RDig.mono (bdR b) [.slice dA DL dc] Zez _ _ rfl rfl rfl R7.di F7.fr.lim (by simp;omega) rfl rfl rfl rfl ⟨_,rfl,rd7⟩ (Nat.le_refl _) (show(n.digs.length+1)*24≤140737488355328 by omega) (show n.digs.length+1≤140737488355328 by omega) ?_))
   intro v' w8 o8 r8 f8;have S8:=S7.fr f8 m6 (by simp;omega);have m8:=Zb5 S7.lt f8 m6 (by simp;omega);have R8:=R7.di' f8 r8;have F8:=F7.step m6 f8 (fun t ht=>.inl (by rw[ht])) (by omega);obtain⟨A8,c8,hv8⟩:=r8.form;subst hv8
   go_wp2_with (refine Sec.store S8 (i:=5) [.slice A8 (n.digs++[bdR b]).length c8] (show 5+1≤15 by decide) rfl rfl rfl rfl (by kernel_rfl) rfl rfl ?_)
   intro w9 S9 hg9 h9;have R9:=R8.fr (Zaq F8.fr.lim hg9 m8) (fun k e=>by injection e;omega);have F9:=F8.store m8 hg9 h9 (show 5+1≤15 by decide);go_wp2;go_ret;simp only[H4.out,if_true]
   (try simp only[List.length_append,List.length_singleton]at R9 S9)
   exact⟨rfl,o8,F9,m8,_,S9.putDi,R9⟩
  ·rw[hkp,if_neg h4]at N4⊢;have H4:=Lib.hid h4;clear hkp;go_wp2;go_ret
   first
    |exact⟨rfl,o4,F3.trans F34,N4⟩
    |(simp only[h4,if_false];exact⟨rfl,o4,F3.trans F34,N4⟩)
theorem Zt6(m:Msg)(n:Nd)(k:Nat)(hk:k<4):(all4.take (k+1)).foldl (Zcm m) n=Zcm m ((all4.take k).foldl (Zcm m) n) k:=by
 have:k=0∨k=1∨k=2∨k=3:=by omega
 rcases this with rfl|rfl|rfl|rfl<;>rfl
theorem Zt7(m:Msg)(n:Nd)(tw:Int)(h:n.out.length≤400):(Zcm m n tw).out.length≤400:=by
 unfold Zcm;split
 ·unfold send;split
  ·simp;omega
  ·exact h
 ·exact h
theorem Zok(m:Msg):∀(l:List Int) (n:Nd),n.out.length≤400→(l.foldl (Zcm m) n).out.length≤400
 |[],_,h=>h
 |i::l,n,h=>by rw[List.foldl_cons];exact Zok m l _ (Zt7 m n i h)
theorem Zhv(i tb g off:Nat)(n:Nd)(m:Msg)(vt vb vp vd cb cp cv:Value)(o:Own)(w:World)(hl:Lim o w)(hi:i<5)(hN:NodeAt o w i tb g off n)(hm:RMsg (Zas o w) m vt vb vp vd cb cp cv)(hs:∀s∈m.bat.txs,s.size≤140737488355328)(h4:n.out.length≤400) :
 Calls Tryz.prog 149 #[.pointer (some ⟨g,off,none⟩),.agg (msgC m vt vb vp vd cb cp cv)] w fun e w'=>e=.returned (.tuple #[])∧∃o',NFr i tb g off o w o' w'∧NodeAt o' w' i tb g off (tell n m):=by
 have hm0:=hm;obtain⟨⟨tA,tc,rfl⟩,⟨bA,bc,rfl⟩,⟨pA,pc,rfl⟩,⟨dA,dc,rfl⟩,⟨cA,cc,rfl⟩,⟨qA,qc,rfl⟩,⟨vA,vc,rfl⟩⟩:=hm0.forms;clear hm0;have Hs:=Lib.hid hs;have H4:=Lib.hid h4;clear hs h4;have ho0:=hl.none w.heap.size (Nat.le_refl _);obtain⟨mc,hmc⟩:∃mc,Hid (msgC m (.slice tA m.bat.txs.length tc) (.slice bA m.hdr.batches.length bc) (.slice pA m.hdr.parents.length pc) (.slice dA m.slt.digest.length dc) (.slice cA m.crt.hdr.batches.length cc) (.slice qA m.crt.hdr.parents.length qc) (.slice vA m.crt.voters.length vc)=mc):=⟨_,rfl⟩;rw[hmc.out]
 go_enter Tryz.func149,Tryz.ntmps149
 go_upto_region 1 with fail
 refine Zo fun W hk hsz hb=>?_
 have hk:=Lib.hid hk;have F1:NFr i tb g off o w o W:=(NFr.refl hl).below hb;have N1:=hN.below hl hb;have r1:=hm.mono (Zae hl hb);clear hm hN hsz
 go_wp2_with fail
 go_loopw [4,5] (fun _ c wr=>∃(k:Nat) (o':Own),k≤4∧c=.int .i64 k∧NFr i tb g off o W o' wr∧NodeAt o' wr i tb g off ((all4.take k).foldl (Zcm m) n)) (fun _ c _=>4-(intOf c).toNat)
 case atStart=>exact⟨0,o,Nat.zero_le _,rfl,NFr.refl (Zam hl hb),N1⟩
 case round =>
  obtain⟨k,o2,hk4,rfl,F2,N2⟩:=hrel
  by_cases hlt:k<4
  ·have hlt':(k:Int)<4:=by omega
   have hq:Hid ((all4.take (k+1)).foldl (Zcm m) n=Zcm m ((all4.take k).foldl (Zcm m) n) k):=Zt6 m n k hlt;have hout:=Lib.hid (Zok m (all4.take k) n H4.out);generalize (all4.take k).foldl (Zcm m) n=q at *;obtain⟨hm2,⟨ytx,yba,ydi,yta,yda,yow,ymi,yvo,ytp,you⟩,S2,R2⟩:=id N2;have s0:=S2.nd0;clear S2 R2
   by_cases hme:(k:Int)=q.me
   ·have e1:Hid (Zcm m q k=q):=by show _=_;unfold Zcm;rw[if_neg (fun h=>h hme)]
    have hb0:((k:Int)==q.me)=true:=by simpa using hme
    have hme':=Lib.hid hme;clear hme;go_wp2;go_roundw
    case rel=>exact⟨k+1,o2,by omega,by go_num,F2,by rw[hq.out,e1.out];exact N2⟩
    case measure=>simp[intOf];omega
   ·have e1:Hid (Zcm m q k=send q k m):=by show _=_;unfold Zcm;rw[if_pos hme]
    have hb0:((k:Int)==q.me)=false:=by simpa using hme
    have hkd:=Za3 hk.out F2.fr ho0;have r2:=r1.mono F2.fr.view;have hsend:=Ze5 i tb g off q k m _ _ _ _ _ _ _ o2 wr F2.fr.lim hi N2 r2 Hs.out hout.out;rw[hmc.out]at hsend;have hsend:=Lib.hid hsend;clear hme r2
    go_wp2_with (refine wpList_load_row rfl 66 _ rfl _ rfl _ _ _ _ hkd Tryz.underlying66 rfl (by rw[←hmc.out];kernel_rfl) ?_)
    refine hsend.out.mono ?_;rintro e w3 ⟨rfl,o3,F3,N3⟩;clear hsend hkd;go_wp2;go_roundw
    case rel=>exact⟨k+1,o3,by omega,by go_num,F2.trans F3,by rw[hq.out,e1.out];exact N3⟩
    case measure=>simp[intOf];omega
  ·have hk4':k=4:=by omega
   subst hk4';have hlt':¬((4:Nat):Int)<4:=by decide
   go_wp2;go_end0;exact⟨rfl,o2,F1.trans F2,N2⟩
theorem digsF_zero{l:List (List UInt8)}(h:Ze0 l=0):∀k (hk:k<l.length),l[k].length=32:=by
 intro k hk;unfold Ze0 at h;split at h
 ·rename_i i hi;have:=List.find?_some hi;simp[h]at this
 ·rename_i hn;rw[List.find?_eq_none]at hn;have h0:=hn k (List.mem_range.2 hk);simp at h0;unfold Zi7 at h0;rw[List.getElem?_eq_getElem hk]at h0;simp only at h0;split at h0
  ·assumption
  ·cases h0
theorem Zoi{a b:List UInt8}{n:Nat}(h:a.length=n):tkB n (a++b,false)=a∧tkS n (a++b,false)=(b,false):=by
 subst h;unfold tkB tkS;have h0:decide ((a++b).length<a.length)=false:=by simp
 simp only[h0,Bool.or_self,Bool.false_eq_true,if_false];simp
theorem Zlm{n:Nat}(h:n<256):(Zar n).toNat=n:=by
 unfold Zar;have h1:((n:Int)%256).toNat=n:=by omega
 rw[h1,UInt8.toNat_ofNat'];omega
theorem Zv2{z:Int}(h0:0≤z)(h:z<256):((Zar z).toNat:Int)=z:=by
 obtain⟨n,rfl⟩:=Int.eq_ofNat_of_zero_le h0;rw[Zlm (by omega)]
theorem Zeb{z:Int}(h0:0≤z)(h:z<256)(b:List UInt8):(nmV 1 (Zar z::b,false):Int)=z∧tkS 1 (Zar z::b,false)=(b,false):=by
 obtain⟨h1,h2⟩:=Zoi (a:=[Zar z]) (b:=b) (n:=1) rfl;refine⟨?_,h2⟩;show(nmV 1 ([Zar z]++b,false):Int)=z;unfold nmV;rw[h1];simp only[beN,List.foldl_cons,List.foldl_nil];have:=Zv2 h0 h;omega
theorem byteI_mod(z:Int):((Zar z).toNat:Int)=z%256:=by
 unfold Zar;rw[UInt8.toNat_ofNat'];have h1:0≤z%256:=Int.emod_nonneg _ (by decide);have h2:z%256<256:=Int.emod_lt_of_pos _ (by decide);omega
theorem Znq{z:Int}(h0:0≤z)(h:z<16777216)(b:List UInt8):(nmV 3 (Zb9 z++b,false):Int)=z∧tkS 3 (Zb9 z++b,false)=(b,false):=by
 obtain⟨h1,h2⟩:=Zoi (a:=Zb9 z) (b:=b) (n:=3) rfl;refine⟨?_,h2⟩;unfold nmV;rw[h1];simp only[Zb9,beN,List.foldl_cons,List.foldl_nil];have q1:=byteI_mod (z/65536);have q2:=byteI_mod (z/256);have q3:=byteI_mod z;omega
theorem Zzq(l:List (List UInt8))(hl:∀x∈l,x.length=32)(b:List UInt8):∀k,k≤l.length→it Zkg k ([],(l.flatten++b,false))=(l.take k,((l.drop k).flatten++b,false)):=by
 intro k
 induction k with
 |zero=>intro _;rfl
 |succ k ih =>
  intro hk;show Zkg (it Zkg k _)=_;rw[ih (by omega)];have hd:l.drop k=l[k]::l.drop (k+1):=List.drop_eq_getElem_cons (by omega);have hx:=hl l[k] (List.getElem_mem (by omega));obtain⟨h1,h2⟩:=Zoi (a:=l[k]) (b:=(l.drop (k+1)).flatten++b) hx;unfold Zkg;rw[hd,List.flatten_cons,List.append_assoc];rw[if_neg (by simp)];simp only;rw[h1,h2,List.take_succ_eq_append_getElem (by omega)]
theorem Zpf(l:List (List UInt8))(hl:∀x∈l,x.length=32)(hn:l.length<256)(b:List UInt8):Zjr (Zed l++b,false)=(l,(b,false)):=by
 unfold Zjr Zed;obtain⟨h1,h2⟩:=Zeb (z:=l.length) (by omega) (by omega) (l.flatten++b);simp only[List.cons_append];have h1':nmV 1 (Zar (l.length:Int)::(l.flatten++b),false)=l.length:=by omega
 rw[h1',h2,Zzq l hl b l.length (Nat.le_refl _)];simp
theorem Zqy(s:ByteArray):bstr (Zca s)=s:=by
 unfold bstr Zca;cases s;simp
theorem txs_it(l:List ByteArray)(hl:∀x∈l,x.size<256)(b:List UInt8):∀k,k≤l.length→it Zg3 k ([],(Zbf l++b,false))=(l.take k,(Zbf (l.drop k)++b,false)):=by
 intro k
 induction k with
 |zero=>intro _;rfl
 |succ k ih =>
  intro hk;show Zg3 (it Zg3 k _)=_;rw[ih (by omega)];have hd:l.drop k=l[k]::l.drop (k+1):=List.drop_eq_getElem_cons (by omega);have hx:=hl l[k] (List.getElem_mem (by omega))
  have ht:Zbf (l.drop k)++b=Zar (l[k].size:Nat)::(Zca l[k]++(Zbf (l.drop (k+1))++b)):=by
   rw[hd];simp only[Zbf,List.map_cons,List.flatten_cons,List.cons_append,List.append_assoc]
  obtain⟨h1,h2⟩:=Zeb (z:=(l[k].size:Nat)) (by omega) (by omega) (Zca l[k]++(Zbf (l.drop (k+1))++b));have h1':nmV 1 (Zar (l[k].size:Nat)::(Zca l[k]++(Zbf (l.drop (k+1))++b)),false)=l[k].size:=by omega
  obtain⟨h3,h4⟩:=Zoi (a:=Zca l[k]) (b:=Zbf (l.drop (k+1))++b) (Zch _);unfold Zg3;rw[ht,if_neg (by simp)];simp only;rw[h1',h2,h3,h4,Zqy,List.take_succ_eq_append_getElem (by omega)]
theorem Zwn(l:List ByteArray)(hl:∀x∈l,x.size<256)(hn:l.length<256)(b:List UInt8):txsR (Zar (l.length:Nat)::(Zbf l++b),false)=(l,(b,false)):=by
 unfold txsR;obtain⟨h1,h2⟩:=Zeb (z:=l.length) (by omega) (by omega) (Zbf l++b);have h1':nmV 1 (Zar (l.length:Int)::(Zbf l++b),false)=l.length:=by omega
 rw[h1',h2,txs_it l hl b l.length (Nat.le_refl _)];simp[Zbf]
theorem Zy2(l:List Int)(hl:∀x∈l,0≤x∧x<256)(b:List UInt8):∀k,k≤l.length→it Zkf k ([],(l.map Zar++b,false))=(l.take k,((l.drop k).map Zar++b,false)):=by
 intro k
 induction k with
 |zero=>intro _;rfl
 |succ k ih =>
  intro hk;show Zkf (it Zkf k _)=_;rw[ih (by omega)];have hd:l.drop k=l[k]::l.drop (k+1):=List.drop_eq_getElem_cons (by omega);have hx:=hl l[k] (List.getElem_mem (by omega));obtain⟨h1,h2⟩:=Zeb hx.1 hx.2 ((l.drop (k+1)).map Zar++b);unfold Zkf;rw[hd,List.map_cons,List.cons_append,if_neg (by simp)];simp only;rw[h1,h2,List.take_succ_eq_append_getElem (by omega)]
theorem Zt2(l:List Int)(hl:∀x∈l,0≤x∧x<256)(hn:l.length<256)(b:List UInt8):Zt3 (Zar (l.length:Nat)::(l.map Zar++b),false)=(l,(b,false)):=by
 unfold Zt3;obtain⟨h1,h2⟩:=Zeb (z:=l.length) (by omega) (by omega) (l.map Zar++b);have h1':nmV 1 (Zar (l.length:Int)::(l.map Zar++b),false)=l.length:=by omega
 rw[h1',h2,Zy2 l hl b l.length (Nat.le_refl _)];simp
theorem Zbi{n lo hi:Int}:inB n lo hi=true↔lo≤n∧n≤hi:=by unfold inB;simp
theorem batchF_zero{a n:Int}{l:List ByteArray}(h:Zcq a n l=0):(0≤a∧a≤3)∧(1≤n∧n≤1048576)∧1≤l.length∧l.length≤4∧∀s∈l,1≤s.size∧s.size≤20:=by
 unfold Zcq at h;split at h
 ·cases h
 ·rename_i h1;simp only[Bool.or_eq_true,Bool.not_eq_true',not_or,Bool.not_eq_false]at h1;split at h
  ·cases h
  ·split at h
   ·rename_i h2 h3;refine⟨Zbi.1 h1.1,Zbi.1 h1.2,by omega,by omega,fun s hs=>?_⟩;have:=List.all_eq_true.1 h3 s hs;simpa[txOk]using this
   ·cases h
theorem Zyj{x:Bat}(h:Zcq x.author x.number x.txs=0)(b:List UInt8):batR (Zfd x.author x.number x.txs++b,false)=(x,(b,false)):=by
 obtain⟨h1,h2,h3,h4,h5⟩:=batchF_zero h;unfold batR Zfd;simp only[List.cons_append,List.append_assoc];obtain⟨p1,p2⟩:=Zeb h1.1 (by omega:x.author<256) (Zb9 x.number++(Zar (x.txs.length:Nat)::(Zbf x.txs++b)));obtain⟨q1,q2⟩:=Znq (z:=x.number) (by omega) (by omega) (Zar (x.txs.length:Nat)::(Zbf x.txs++b));have r:=Zwn x.txs (fun s hs=>by have:=h5 s hs;omega) (by omega) b;simp only[List.nil_append]at *;rw[p2,q2,r,p1,q1]
theorem headF_zero{a n:Int}{b p:List (List UInt8)}(h:Zb3 a n b p=0):(0≤a∧a≤3)∧(1≤n∧n≤1048576)∧b.length≤3∧p.length≤4∧(∀x∈b,x.length=32)∧(∀x∈p,x.length=32):=by
 unfold Zb3 at h;split at h
 ·rename_i h1;simp only[Bool.and_eq_true]at h1;split at h
  ·cases h
  ·rename_i h2;split at h
   ·rename_i h3;exact absurd h h3
   ·rename_i h3;split at h
    ·rename_i h4;exact absurd h h4
    ·rename_i h4;refine⟨Zbi.1 h1.1,Zbi.1 h1.2,by omega,by omega,fun x hx=>?_,fun x hx=>?_⟩
     ·obtain⟨i,hi,rfl⟩:=List.getElem_of_mem hx;exact digsF_zero (Classical.not_not.1 h3) i hi
     ·obtain⟨i,hi,rfl⟩:=List.getElem_of_mem hx;exact digsF_zero (Classical.not_not.1 h4) i hi
 ·cases h
theorem Zrp{x:Hdr}(h:Zb3 x.author x.round x.batches x.parents=0)(b:List UInt8):hdrR (Zcb x.author x.round x.batches x.parents++b,false)=(x,(b,false)):=by
 obtain⟨h1,h2,h3,h4,h5,h6⟩:=headF_zero h;unfold hdrR Zcb;simp only[List.cons_append,List.append_assoc];obtain⟨p1,p2⟩:=Zeb h1.1 (by omega:x.author<256) (Zb9 x.round++(Zed x.batches++(Zed x.parents++b)));obtain⟨q1,q2⟩:=Znq (z:=x.round) (by omega) (by omega) (Zed x.batches++(Zed x.parents++b));have r1:=Zpf x.batches h5 (by omega) (Zed x.parents++b);have r2:=Zpf x.parents h6 (by omega) b;rw[p2,q2,r1,r2,p1,q1]
theorem certF_zero{a n:Int}{b p:List (List UInt8)}{vs:List Int}(h:Zg4 a n b p vs=0):Zb3 a n b p=0∧3≤vs.length∧vs.length≤4∧∀i (hi:i<vs.length),Zht vs i=0:=by
 unfold Zg4 at h;split at h
 ·rename_i h1;exact absurd h h1
 ·rename_i h1;split at h
  ·cases h
  ·rename_i h2;split at h
   ·rename_i h3;exact absurd h h3
   ·rename_i h3;split at h
    ·cases h
    ·refine⟨Classical.not_not.1 h1,by omega,by omega,fun i hi=>?_⟩;have h4:=Classical.not_not.1 h3;unfold Zjl at h4;split at h4
     ·rename_i j hj;have:=List.find?_some hj;simp[h4]at this
     ·rename_i hn;rw[List.find?_eq_none]at hn;have:=hn i (List.mem_range.2 hi);simpa using this
theorem Zsd{vs:List Int}(hi:i<vs.length)(h:Zht vs i=0):0≤vs[i]∧vs[i]≤3∧∀j,i=j+1→∀(hj:j<vs.length),vs[j]<vs[i]:=by
 unfold Zht at h;rw[List.getElem?_eq_getElem hi]at h;simp only at h;split at h
 ·rename_i h1;obtain⟨h2,h3⟩:=Zbi.1 h1;refine⟨h2,h3,fun j hj hjl=>?_⟩;subst hj;simp only at h;rw[List.getElem?_eq_getElem hjl]at h;simp only at h;split at h
  ·cases h
  ·omega
 ·cases h
theorem Zx7{x:Crt}(h:Zg4 x.hdr.author x.hdr.round x.hdr.batches x.hdr.parents x.voters=0)(b:List UInt8) :
 crtR (Zcb x.hdr.author x.hdr.round x.hdr.batches x.hdr.parents++(Zar (x.voters.length:Nat)::(x.voters.map Zar++b)),false)=(x,(b,false)):=by
 obtain⟨h1,h2,h3,h4⟩:=certF_zero h;unfold crtR;have r1:=Zrp h1 (Zar (x.voters.length:Nat)::(x.voters.map Zar++b))
 have r2:=Zt2 x.voters (fun v hv=>by
  obtain⟨i,hi,rfl⟩:=List.getElem_of_mem hv;have:=Zsd hi (h4 i hi)
  omega) (by omega) b
 rw[r1,r2]
theorem slotF_zero{a r:Int}{n:Nat}(h:Zf7 a r n=0):(0≤a∧a≤3)∧(1≤r∧r≤1048576)∧n=32:=by
 unfold Zf7 at h;split at h
 ·cases h
 ·rename_i h1;simp only[Bool.or_eq_true,Bool.not_eq_true',not_or,Bool.not_eq_false]at h1;split at h
  ·cases h
  ·rename_i h2;exact⟨Zbi.1 h1.1,Zbi.1 h1.2,Classical.not_not.1 h2⟩
theorem Zwx{x:Slot}(h:Zf7 x.author x.round x.digest.length=0)(b:List UInt8):sltR (Zar x.author::(Zb9 x.round++(x.digest++b)),false)=(x,(b,false)):=by
 obtain⟨h1,h2,h3⟩:=slotF_zero h;unfold sltR;obtain⟨p1,p2⟩:=Zeb h1.1 (by omega:x.author<256) (Zb9 x.round++(x.digest++b));obtain⟨q1,q2⟩:=Znq (z:=x.round) (by omega) (by omega) (x.digest++b);obtain⟨r1,r2⟩:=Zoi (a:=x.digest) (b:=b) h3;rw[p2,q2,r1,r2,p1,q1]
theorem msgF_zero(h:msgF m=0):(0≤m.src∧m.src≤3)∧(0≤m.dst∧m.dst≤3)∧(1≤m.kind∧m.kind≤5)∧Zd7 m=0∧Zk5 m=false:=by
 unfold msgF at h;split at h
 ·rename_i h0;simp only[Bool.and_eq_true]at h0;split at h
  ·rename_i h1;split at h
   ·rename_i h2;exact absurd h h2
   ·rename_i h2;split at h
    ·cases h
    ·rename_i h3;exact⟨Zbi.1 h0.1,Zbi.1 h0.2,Zbi.1 h1,Classical.not_not.1 h2,by simpa using h3⟩
  ·cases h
 ·cases h
theorem Zn9{x:Bat}(h:Zlr x=false):x=bat0:=by
 obtain⟨a,n,l⟩:=x;simp[Zlr]at h;simp[bat0,h]
theorem Zfm{x:Hdr}(h:Zec x.author x.round x.batches x.parents=true):x=hdr0:=by
 obtain⟨a,n,l,p⟩:=x;simp[Zec]at h;simp[hdr0,h]
theorem Zng{x:Slot}(h:Zkh x=false):x=slt0:=by
 obtain⟨a,n,l⟩:=x;simp[Zkh]at h;simp[slt0,h]
theorem Zn1{x:Crt}(h:Zlc x=false):x=crt0:=by
 obtain⟨hd,vs⟩:=x;simp[Zlc]at h;have:=Zfm (x:=hd) h.1;simp[crt0,this,h.2]
theorem Zxg(h:msgF m=0):msgR (msgB m)=(m,([],false)):=by
 obtain⟨h1,h2,h3,h4,h5⟩:=msgF_zero h;obtain⟨src,dst,kind,bat,hdr,slt,crt,round⟩:=m;simp only at h1 h2 h3;unfold msgR msgB;obtain⟨p1,p2⟩:=Zeb (z:=kind) (by omega) (by omega) (Zar src::Zar dst::Zdl ⟨src,dst,kind,bat,hdr,slt,crt,round⟩);obtain⟨q1,q2⟩:=Zeb (z:=src) (by omega) (by omega) (Zar dst::Zdl ⟨src,dst,kind,bat,hdr,slt,crt,round⟩);obtain⟨r1,r2⟩:=Zeb (z:=dst) (by omega) (by omega) (Zdl ⟨src,dst,kind,bat,hdr,slt,crt,round⟩);simp only[List.cons_append,List.nil_append];rw[p2,q2,r2,p1,q1,r1];unfold Zk5 at h5;unfold Zd7 at h4;unfold bodR Zdl;simp only[Bool.or_eq_false_iff,Bool.and_eq_false_iff,decide_eq_false_iff_not,Decidable.not_not,Bool.not_eq_false',ne_eq]at h5;simp only at h4 h5⊢;obtain⟨⟨⟨⟨e1,e2⟩,e3⟩,e4⟩,e5⟩:=h5;have hk:kind=1∨kind=2∨kind=3∨kind=4∨kind=5:=by omega
 rcases hk with rfl|rfl|rfl|rfl|rfl
 ·simp at h4 e2 e3 e4 e5;have q:=Zyj (x:=bat) h4 [];simp only[List.append_nil]at q;simp[q,Zfm e2,Zng e3,Zn1 e4,e5]
 ·simp at h4 e1 e3 e4 e5;have q:=Zrp (x:=hdr) h4 [];simp only[List.append_nil]at q;simp[q,Zn9 e1,Zng e3,Zn1 e4,e5]
 ·simp at h4 e1 e2 e4 e5;have q:=Zwx (x:=slt) h4 [];simp only[List.append_nil]at q;simp[q,Zn9 e1,Zfm e2,Zn1 e4,e5]
 ·simp at h4 e1 e2 e3 e5;have q:=Zx7 (x:=crt) h4 [];simp only[List.append_nil]at q;simp[q,Zn9 e1,Zfm e2,Zng e3,e5]
 ·simp at h4 e1 e2 e3 e4;obtain⟨q0,q9⟩:=Zbi.1 h4;obtain⟨q1,q2⟩:=Znq (z:=round) (by omega) (by omega) [];simp only[List.append_nil]at q1 q2;simp[q1,q2,Zn9 e1,Zfm e2,Zng e3,Zn1 e4]
theorem Zrr(l:List (List UInt8))(h:∀x∈l,x.length=32):l.flatten.length=32*l.length:=by
 induction l with
 |nil=>rfl
 |cons x l ih =>
  rw[List.flatten_cons,List.length_append,ih (fun y hy=>h y (by simp[hy])),h x (by simp),List.length_cons];omega
theorem texts_len(l:List ByteArray)(h:∀s∈l,s.size≤20):(Zbf l).length≤21*l.length:=by
 induction l with
 |nil=>exact Nat.le_refl _
 |cons s l ih =>
  have:=ih (fun y hy=>h y (by simp[hy]));have h1:=h s (by simp)
  have e:(Zbf (s::l)).length=1+s.size+(Zbf l).length:=by
   simp[Zbf,Zch];omega
  rw[e,List.length_cons];omega
theorem headerB_len{a n:Int}{b p:List (List UInt8)}(h:Zb3 a n b p=0):(Zcb a n b p).length≤240:=by
 obtain⟨h1,h2,h3,h4,h5,h6⟩:=headF_zero h;unfold Zcb Zed Zb9;simp only[List.length_append,List.length_cons,List.length_nil,Zrr _ h5,Zrr _ h6];omega
theorem msgB_len(h:msgF m=0):3≤(msgB m).length∧(msgB m).length≤255:=by
 obtain⟨h1,h2,h3,h4,h5⟩:=msgF_zero h;unfold msgB;refine⟨by simp,?_⟩
 suffices q:(Zdl m).length≤252 by simp;omega
 unfold Zd7 at h4;unfold Zdl;split
 ·rename_i hk;rw[if_pos hk]at h4;obtain⟨_,_,_,q4,q5⟩:=batchF_zero h4;have:=texts_len m.bat.txs (fun s hs=>(q5 s hs).2);simp only[Zfd,Zb9,List.length_append,List.length_cons,List.length_nil];omega
 ·rename_i hk;rw[if_neg hk]at h4;split
  ·rename_i hk;rw[if_pos hk]at h4;have:=headerB_len h4;omega
  ·rename_i hk;rw[if_neg hk]at h4;split
   ·rename_i hk;rw[if_pos hk]at h4;obtain⟨_,_,q⟩:=slotF_zero h4;simp only[Zb9,List.length_append,List.length_cons,List.length_nil];omega
   ·rename_i hk;rw[if_neg hk]at h4;split
    ·rename_i hk;rw[if_pos hk]at h4;obtain⟨q1,q2,q3,_⟩:=certF_zero h4;have:=headerB_len q1;simp only[List.length_append,List.length_cons,List.length_map];omega
    ·simp[Zb9]
theorem Zvq(h:msgF m=0):decE (msgB m)=0∧decM (msgB m)=m:=by
 have hl:=msgB_len h;have hr:=Zxg h;obtain⟨h1,h2,h3,_⟩:=msgF_zero h;have hk:(nmV 1 (msgB m,false):Int)=m.kind:=(Zeb (z:=m.kind) (by omega) (by omega) (Zar m.src::Zar m.dst::Zdl m)).1
 have hE:decE (msgB m)=0:=by
  unfold decE;rw[if_neg (by omega),if_neg (by omega),if_neg (by omega),hr];simp[h]
 refine⟨hE,?_⟩;unfold decM;rw[if_pos hE,hr]
end Fl
end Go.Proofs.YtinibgklgehdpaaGreatDoor
