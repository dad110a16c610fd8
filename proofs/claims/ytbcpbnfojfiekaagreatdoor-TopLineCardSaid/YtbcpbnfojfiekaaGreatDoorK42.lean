/- A part of what the last text stands on. -/
import Derived.Test.YtbcpbnfojfiekaaGreatDoorK40
import Derived.Test.YtbcpbnfojfiekaaGreatDoorK41
namespace Go.Proofs.YtbcpbnfojfiekaaGreatDoor
open Go.ChangeShapes Go.WideShapes Go.ChangeAt Go.RowKit Go.Proofs.Tryz Qa Qb Qc
set_option linter.all false
set_option maxHeartbeats 20000000
set_option maxRecDepth 100000
variable{i:Nat}
namespace Fl
theorem Zwj(f:Ft)(a:At)(hi:a.node=i):Zk4 f a=subE f.rogue (Zav f i) a.text:=by
 unfold Zk4 subE;rw[hi]
theorem subN_is(f:Ft)(a:At)(b:f.nodes.length=4)(c:i<4)(hi:a.node=i):submit f a=Za4 f i (subN f.rogue (Zav f i) a.text):=by
 unfold submit subN;rw[←Zwj f a hi,hi];split
 ·rfl
 ·rw[Zj0 b (by omega)]
theorem elemCode:Elem prog 33 26 1 8:=Zo4 (z:=.int .i64 0) underlying33 (by kernel_rfl) rfl (by decide)
theorem do_any(gf:Nat)(f:Ft)(a:At)(o:Own)(w:World)(hF:FtAt o w gf f)(hT:Tabs (Zas o w))(hM:MI f)(ha:actE a=0)(gm:f.signs.length≤1000000000)(s4:f.codes.length≤1000000000) :
 Calls prog 36 #[.pointer (some ⟨gf,0,none⟩),.agg #[.int .i64 a.kind,.int .i64 a.node,.int .i64 a.pick,.string a.text]] w fun e w'=>e=.returned (.tuple #[])∧∃o',Fr All o w o' w'∧FtAt o' w' gf (doA f a):=by
 obtain⟨QR,F⟩:∃q,Hid (doA f a=q):=⟨_,rfl⟩;rw[F.out];obtain⟨h7,p,gi,sn⟩:=Zq7 ha;have gl:=Zb h7;have gy:=Zb p;have gc:=Zb gi;have R:=Zb hM;have s5:=Zb gm;have ga:=Zb s4;obtain⟨i,hi⟩:∃i:Nat,a.node=i:=⟨a.node.toNat,by have:=h7.1.1;omega⟩;have hh:i<4:=by have:=h7.1.2;omega
 have Hi:=Zb hi;obtain⟨K,c⟩:∃K,Hid (a.kind=K):=⟨_,rfl⟩;obtain⟨PP,Z⟩:∃P,Hid (a.pick=P):=⟨_,rfl⟩;rw[hi,c.out,Z.out];have s1:0≤PP:=by rw[←Z.out];exact h7.2
 have a0:(i:Int)<4:=by omega
 have sf:(0:Int)≤(i:Int):=by omega
 clear h7 p gi sn hM gm s4 hi ha;go_enter func36,ntmps36;go_upto_region 1 with fail;refine Zo fun W U so hb=>?_
 have F1:=hF.below hb;have T1:=hT.mono (Zaf hF.lim hb);have A1:Fr All o w o W:=Fr.of_below hF.lim hb;have l1:=F1.lim;have S:=hF.lim.none w.heap.size (Za _);have c0:=U.cell 0;have c1:=U.cell 1;have c2:=U.cell 2;have c3:=U.cell 3;simp at c0 c1 c2 c3;clear hF hT so
 by_cases k1:K=1
 ·have kb:(K==1)=true:=by simpa using k1
  have t:Hid (QR={ Za4 f i (subN f.rogue (Zav f i) a.text)with codes:=f.codes++[subE f.rogue (Zav f i) a.text] }):=by
   show _=_;rw[←F.out];unfold doA;rw[if_pos (c.out.trans k1),subN_is f a F1.len hh Hi.out,Zwj f a Hi.out]
  have hy:a.text.size≤140737488355328:=Zg (gc.out (by rw[c.out,k1];rfl)) (by decide);clear k1;obtain⟨vc,g63,rc⟩:=id F1.codes;have z63:=g63.cell (j:=0) (show 0<1 by decide);simp at z63;obtain⟨vcA,vcc,sm⟩:=rc.form;subst sm;go_upto_region 5 with fail;refine Zt (fun w'=>Below W.heap.size W w') (fun w'=>Blk w' w.heap.size 48 #[.int .i64 K,.int .i64 (i:Int),.int .i64 PP,.string a.text]∧w'.cell? ⟨gf,63,none⟩=some (.slice vcA f.codes.length vcc)) [19] (.q 0 (.q 1 (.q 2 (.q 3 (.q 4 (.q 5 (.q 6 (.q 7 (.q 8 (.q 9 (.q 10 (.q 11 (.q 12 (.q 13 (.l 14 (.l 15 (.l 16 (.q 17 (.q 18 (.l 19 .nil)))))))))))))))))))) ?_ ?_
  ·exact⟨Zad _,U.drew,z63⟩
  intro W2 z A
  repeat((first|refine pq (h:=⟨_,fun w' A=>by(have I:=A.2;have x:=A.1;have h1:=x.cell 1;have h3:=x.cell 3;simp at h1 h3;go_simp;exact rfl),?_⟩)|refine Zq ?_);simp only[sx])
  have F2:=F1.below z;have T2:=T1.mono (Zaf l1 z);have A2:=All.trans A1 (Fr.of_below (T:=All) l1 z);have l2:=F2.lim;have g632:=g63.fr (Fr.of_below (T:=fun _=>False) l1 z) F1.mark (fun h=>h);have rc2:=rc.fr RI.mono (Fr.of_below (T:=fun _=>False) l1 z) (fun h=>h);refine Zd fun K c=>?_
  try simp only[sy]
  go_simp;refine(Zui gf i f.rogue f.signs (Zav f i) a.text o W2 l2 hh F2.sg (F2.node i hh) (R.out.mn i (by omega) (by omega)).pool hy).mono ?_;rintro e W3 ⟨rfl,K3,N3⟩;have F3:=F2.step hh K3 N3;have A3:=All.trans A2 K3.fr.all;have D:=Za3 A.1 K3.fr S;have g633:=g632.only K3.only (.inr (by omega));have z633:=g633.cell (j:=0) (show 0<1 by decide);simp at z633;have rc3:=rc2.fr RI.mono K3.fr (by simp;omega);have l3:=F3.lim;obtain⟨E,hE⟩:∃E,Hid (subE f.rogue (Zav f i) a.text=E):=⟨_,rfl⟩;rw[hE.out]at t⊢;refine c.out _ _ (⟨D,z633⟩) fun A=>?_
  clear c K
  try simp only[sx]
  repeat(refine Zq ?_;simp only[sx])
  refine Zd fun K c=>?_
  try simp only[sy]
  go_simp;have N:=Zac W3 (.cells #[.int .i64 E] 26);refine c.out _ _ (⟨D.kept N,Zaa N _ _ z633⟩) fun A=>?_
  clear c K
  try simp only[sx]
  repeat(refine Zq ?_;simp only[sx])
  refine Zd fun K c=>?_
  try simp only[sy]
  refine Zcf (n:=140737488355328) RI.mono E [.int .i64 E] elemCode _ _ rfl rfl rc3 l3 (by decide) rfl rfl rfl rfl (show RI _ _ _ from rfl) (Za _) (show(f.codes.length+1)*8≤140737488355328 by have:=ga.out;omega) (show f.codes.length+1≤140737488355328 by have:=ga.out;omega) (fun v' w5 o5 r5 f5=>?_);obtain⟨A5,c5,rfl⟩:=r5.form;have gw:=Za3 D f5 S;have g635:=g633.fr f5 F3.mark (by simp);have z635:=g635.cell (j:=0) (show 0<1 by decide);simp at z635;refine c.out _ _ (⟨gw,z635⟩) fun A=>?_
  clear c K
  try simp only[sx]
  repeat(refine Zq ?_;simp only[sx])
  refine Zc fun K c=>?_
  try simp only[sy]
  refine Sec.wp_store g635 (i:=0) [.slice A5 (f.codes++[E]).length c5] (show 0+1≤1 by decide) rfl rfl rfl (by kernel_rfl) rfl rfl ?_;intro w6 S6 h5 h6;have m5:=Zb6 F3.sg.rogue.lt f5 F3.mark (by simp);have k6:=Zap f5.lim h5 m5;have F6:=F3.newCodes f5 r5 S6 h5 h6;rw[←t.out]at F6;have A6:=All.trans A3 (All.trans f5.all k6.all);refine c.out _ _ ?_;clear c K
  try simp only[sx]
  repeat(refine Zq ?_;simp only[sx])
  refine Zai ?_;clear F1 F2 F3 T1 T2 A1 A2 A3 rc rc2 rc3 r5 U D gw S6;go_wp2;go_end0;exact⟨rfl,o5,A6,F6⟩
 have kb1:(K==1)=false:=by simpa using k1
 by_cases k45:K=4∨K=5
 ·have b:Hid (QR=match f.away[pick f PP]? with|none=>f|some m=>if K=4 then come {f with away:=f.away.eraseIdx (pick f PP) } m.dst m else {f with away:=f.away.eraseIdx (pick f PP) }):=by
   show _=_;rw[←F.out];unfold doA;rw[if_neg (by rw[c.out];exact k1),if_pos (by rw[c.out];exact k45),Z.out,c.out]
   cases f.away[pick f PP]?<;>rfl
  have kb4:∃b4 b5,(K==4)=b4∧(K==5)=b5∧(b4=true∨b5=true):=⟨_,_,rfl,rfl,by simpa using k45⟩;obtain⟨b4,b5,e4,e5,e45⟩:=kb4;have N:Hid (b4=true↔K=4):=by show _↔_;rw[←e4];simp
  clear k45 k1;obtain⟨J,hJ⟩:∃J,Hid (pick f PP=J):=⟨_,rfl⟩;rw[hJ.out]at b;have p:=Ztg gf f PP o W F1 s1 R.out.away;rw[hJ.out]at p
  have L:Hid (f.away.length≠0→J<f.away.length):=by
   intro I;rw[←hJ.out];unfold pick;have:=Int.emod_lt_of_pos PP (show(0:Int)<f.away.length by omega);have:=Int.emod_nonneg PP (show(f.away.length:Int)≠0 by omega);omega
  by_cases I:f.away.length=0
  ·rw[if_pos I]at p
   have t:Hid (QR=f):=by
    show _=_;rw[b.out,List.getElem?_eq_none (by omega)]
   rw[←t.out]at F1;clear I b
   cases b4<;>cases b5
   ·simp at e45
   all_goals
    go_wp2_with fail;refine p.mono ?_
    rintro e w2 ⟨rfl,rfl⟩;go_wp2;go_end0;exact⟨rfl,o,A1,F1⟩
  rw[if_neg I]at p;have r:=L.out I;obtain⟨m,hm⟩:∃m,Hid (f.away[J]=m):=⟨_,Zb rfl⟩;have gj:=R.out.wi.away f.away[J] (List.getElem_mem r);have hv:=Zur gf J f o W F1 r R.out.away;have gq:MI {f with away:=f.away.eraseIdx J }:=R.out.awayed (fun x hx=>R.out.wi.away x (List.mem_of_mem_eraseIdx hx)) (Zg Zqy R.out.away)
  have t:Hid (QR=if K=4 then come {f with away:=f.away.eraseIdx J } m.dst m else {f with away:=f.away.eraseIdx J }):=by
   show _=_;rw[b.out,Zp r];simp only;rw[←hm.out]
  have s7:=Zb gq
  have Y:Calls prog 58 #[.pointer (some ⟨gf,0,none⟩),.int .i64 (J:Int)] W fun e w'=>∃vt vb vp vd cb cp cv,e=.returned (.agg (msgC m vt vb vp vd cb cp cv))∧∃o',Fr All o W o' w'∧FtAt o' w' gf {f with away:=f.away.eraseIdx J }∧RMsg (Zas o' w') m vt vb vp vd cb cp cv∧∀s∈m.bat.txs,s.size≤140737488355328:=by
   rw[←hm.out];exact hv
  have he:=Zb Y;have hw:Zhv m:=by rw[←hm.out];exact gj
  have M:=Zb hw;obtain⟨G,hG⟩:∃G,Hid (({ f with away:=f.away.eraseIdx J }:Ft)=G):=⟨_,Zb rfl⟩;rw[hG.out]at t s7 he;have sh:(0:Int)≤(J:Int):=by omega
  clear hv Y gj hw gq hm r I b L
  cases b4<;>cases b5
  ·simp at e45
  ·have g4:Hid (QR=G):=by show _=_;rw[t.out,if_neg (by rw[←N.out];decide)]
   clear t N;go_wp2_with fail;refine p.mono ?_;rintro e w2 ⟨rfl,rfl⟩;go_wp2_with fail;refine he.out.mono ?_;rintro e w3 ⟨vt,vb,vp,vd,cb,cp,cv,rfl,o3,A3,F3,rm3,gn⟩;rw[←g4.out]at F3;have A13:=All.trans A1 A3;have D:=Za3 U A3 S;have d0:=D.cell 0;simp at d0;have rm0:=rm3;obtain⟨⟨tA,tc,rfl⟩,⟨bA,bc,rfl⟩,⟨pA,pc,rfl⟩,⟨dA',dc',rfl⟩,⟨cA,cc,rfl⟩,⟨qA,qc,rfl⟩,⟨eA,ec,rfl⟩⟩:=rm0.forms;clear rm0;unfold msgC;have H:=Blk.new w3 90 #[.int .i64 0,.int .i64 0,.int .i64 0,.int .i64 0,.int .i64 0,.slice none 0 0,.int .i64 0,.int .i64 0,.slice none 0 0,.slice none 0 0,.int .i64 0,.int .i64 0,.slice none 0 0,.int .i64 0,.int .i64 0,.slice none 0 0,.slice none 0 0,.slice none 0 0,.int .i64 0];have y:=Zac w3 (.cells #[.int .i64 0,.int .i64 0,.int .i64 0,.int .i64 0,.int .i64 0,.slice none 0 0,.int .i64 0,.int .i64 0,.slice none 0 0,.slice none 0 0,.int .i64 0,.int .i64 0,.slice none 0 0,.int .i64 0,.int .i64 0,.slice none 0 0,.slice none 0 0,.slice none 0 0,.int .i64 0] 90);go_wp2_with (refine Zj 19 H ?_);intro w4 O C;have d:Below w3.heap.size w3 w4:=Zab y y.size C (by intro k e;injection e;omega);have F4:=F3.below d;have A4:=All.trans A13 (Fr.of_below (T:=All) F3.lim d);have d0':=Zaa d _ _ d0;clear H y C O F1 F3 rm3 p T1;go_wp2;go_end0;exact⟨rfl,o3,A4,F4⟩
  all_goals
   have g4:Hid (QR=come G m.dst m):=by show _=_;rw[t.out,if_pos (N.out.1 rfl)]
   clear t N;go_wp2_with fail;refine p.mono ?_;rintro e w2 ⟨rfl,rfl⟩;go_wp2_with fail;refine he.out.mono ?_;rintro e w3 ⟨vt,vb,vp,vd,cb,cp,cv,rfl,o3,A3,F3,rm3,gn⟩;have A13:=All.trans A1 A3;have D:=Za3 U A3 S;have d0:=D.cell 0;simp at d0;have T3:=T1.mono A3.view;have rm0:=rm3;obtain⟨⟨tA,tc,rfl⟩,⟨bA,bc,rfl⟩,⟨pA,pc,rfl⟩,⟨dA',dc',rfl⟩,⟨cA,cc,rfl⟩,⟨qA,qc,rfl⟩,⟨eA,ec,rfl⟩⟩:=rm0.forms;clear rm0;unfold msgC;have H:=Blk.new w3 90 #[.int .i64 0,.int .i64 0,.int .i64 0,.int .i64 0,.int .i64 0,.slice none 0 0,.int .i64 0,.int .i64 0,.slice none 0 0,.slice none 0 0,.int .i64 0,.int .i64 0,.slice none 0 0,.int .i64 0,.int .i64 0,.slice none 0 0,.slice none 0 0,.slice none 0 0,.int .i64 0];have y:=Zac w3 (.cells #[.int .i64 0,.int .i64 0,.int .i64 0,.int .i64 0,.int .i64 0,.slice none 0 0,.int .i64 0,.int .i64 0,.slice none 0 0,.slice none 0 0,.int .i64 0,.int .i64 0,.slice none 0 0,.int .i64 0,.int .i64 0,.slice none 0 0,.slice none 0 0,.slice none 0 0,.int .i64 0] 90);go_wp2_with (refine Zj 19 H ?_);intro w4 O C;have d:Below w3.heap.size w3 w4:=Zab y y.size C (by intro k e;injection e;omega);have F4:=F3.below d;have A4:=All.trans A13 (Fr.of_below (T:=All) F3.lim d);have T4:=T3.mono (Zaf F3.lim d);have rm4:=rm3.mono (Zaf F3.lim d);have d0':=Zaa d _ _ d0;have d1:=O.cell 1;simp at d1;clear H y C F1 F3 rm3 p T1 T3;go_wp2_with (refine wpList_load_row rfl 90 _ rfl _ rfl _ _ _ _ O underlying90 rfl (by kernel_rfl) ?_);refine(Zl8 gf G m.dst m _ _ _ _ _ _ _ o3 w4 F4 T4 s7.out M.out.2 rm4 gn).mono ?_;rintro e w5 ⟨rfl,o5,⟨i5,_,K5⟩,F5⟩;rw[←g4.out]at F5;clear O F4 T4 rm4;go_wp2;go_end0;exact⟨rfl,o5,All.trans A4 K5.fr.all,F5⟩
 have kb4:(K==4)=false:=by simpa using fun e=>k45 (.inl e)
 have kb5:(K==5)=false:=by simpa using fun e=>k45 (.inr e)
 by_cases k6:K=6
 ·have b:Hid (QR=match f.away[pick f PP]? with|none=>f|some m=>if f.away.length<400 then {f with away:=f.away++[m] } else f):=by
   show _=_;rw[←F.out];unfold doA;rw[if_neg (by rw[c.out];exact k1),if_neg (by rw[c.out];exact k45),if_pos (by rw[c.out];exact k6),Z.out]
   cases f.away[pick f PP]?<;>rfl
  have kb6:(K==6)=true:=by simpa using k6
  clear k45 k1 k6;obtain⟨J,hJ⟩:∃J,Hid (pick f PP=J):=⟨_,rfl⟩;rw[hJ.out]at b;have p:=Ztg gf f PP o W F1 s1 R.out.away;rw[hJ.out]at p;obtain⟨va,g62,ra⟩:=id F1.away;have z62:=g62.cell (j:=0) (show 0<1 by decide);simp at z62;obtain⟨vaA,vac,hz⟩:=ra.form;subst hz
  by_cases I:f.away.length=0
  ·rw[if_pos I]at p
   have t:Hid (QR=f):=by
    show _=_;rw[b.out,List.getElem?_eq_none (by omega)]
   rw[←t.out]at F1;clear I b ra g62 z62;go_wp2_with fail;refine p.mono ?_;rintro e w2 ⟨rfl,rfl⟩;go_wp2;go_end0;exact⟨rfl,o,A1,F1⟩
  rw[if_neg I]at p
  have r:J<f.away.length:=by
   rw[←hJ.out];unfold pick;have:=Int.emod_lt_of_pos PP (show(0:Int)<f.away.length by omega);have:=Int.emod_nonneg PP (show(f.away.length:Int)≠0 by omega);omega
  have sh:(0:Int)≤(J:Int):=by omega
  by_cases h4:f.away.length<400
  rotate_left
  ·have t:Hid (QR=f):=by
    show _=_;rw[b.out,Zp r];simp only;rw[if_neg h4]
   rw[←t.out]at F1;have sb:¬(f.away.length:Int)<400:=by omega
   clear I b ra g62 r h4;go_wp2_with fail;refine p.mono ?_;rintro e w2 ⟨rfl,rfl⟩;go_wp2;go_end0;exact⟨rfl,o,A1,F1⟩
  have t:Hid (QR={ f with away:=f.away++[f.away[J]] }):=by
   show _=_;rw[b.out,Zp r];simp only;rw[if_pos h4]
  have sb:(f.away.length:Int)<400:=by omega
  have a2:(J:Int)<f.away.length:=by omega
  have g7:=ra.ownSl.reads (bs:=264) (fun _ _ _ _ hx _=>hx) (by omega);obtain⟨A9,c9,g9,-,-,-,-,h2⟩:=g7;injection g9 with he1 _ he3;subst he1 he3;obtain⟨bb,bo,hA,h9⟩:=h2 (by omega);subst hA;obtain⟨cs9,-,B,⟨vt,vb,vp,vd,cb,cp,cv,rfl,rm⟩,g6⟩:=h9 J r;generalize f.away[J]=m at *;have rm0:=rm;obtain⟨⟨tA,tc,rfl⟩,⟨bA,bc,rfl⟩,⟨pA,pc,rfl⟩,⟨dA',dc',rfl⟩,⟨cA,cc,rfl⟩,⟨qA,qc,rfl⟩,⟨vA,vc,rfl⟩⟩:=rm0.forms;clear rm0 h2 h9
  have hp:=Zb (show ∀j v,(#[.int .i64 m.src,.int .i64 m.dst,.int .i64 m.kind,.int .i64 m.bat.author,.int .i64 m.bat.number,.slice tA m.bat.txs.length tc,.int .i64 m.hdr.author,.int .i64 m.hdr.round,.slice bA m.hdr.batches.length bc,.slice pA m.hdr.parents.length pc,.int .i64 m.slt.author,.int .i64 m.slt.round,.slice dA' m.slt.digest.length dc',.int .i64 m.crt.hdr.author,.int .i64 m.crt.hdr.round,.slice cA m.crt.hdr.batches.length cc,.slice qA m.crt.hdr.parents.length qc,.slice vA m.crt.voters.length vc,.int .i64 m.round]:Array Value).toList[j]?=some v→W.cell? ⟨bb,bo+J*19+j,none⟩=some v from fun j v hj=>by
   have g0:j<19:=(List.getElem?_eq_some_iff.1 hj).1
   exact(B j g0).trans hj)
  have s2:Hid (((#[.int .i64 m.src,.int .i64 m.dst,.int .i64 m.kind,.int .i64 m.bat.author,.int .i64 m.bat.number,.slice tA m.bat.txs.length tc,.int .i64 m.hdr.author,.int .i64 m.hdr.round,.slice bA m.hdr.batches.length bc,.slice pA m.hdr.parents.length pc,.int .i64 m.slt.author,.int .i64 m.slt.round,.slice dA' m.slt.digest.length dc',.int .i64 m.crt.hdr.author,.int .i64 m.crt.hdr.round,.slice cA m.crt.hdr.batches.length cc,.slice qA m.crt.hdr.parents.length qc,.slice vA m.crt.voters.length vc,.int .i64 m.round]:Array Value).toList.all fun u=>u.oneCell')=true):=rfl;have H4:=Zb h4;clear B b I r h4;go_wp2_with fail;refine p.mono ?_;rintro e w2 ⟨rfl,rfl⟩;go_upto_region 16 with fail;refine Zt (fun w'=>Below w2.heap.size w2 w') (fun w'=>Below w2.heap.size w2 w'∧w'.cell? ⟨gf,62,none⟩=some (.slice (some ⟨bb,bo,none⟩) f.away.length vac)) [0,13,14,15,16] (.qc 0 (.q 1 (.q 2 (.q 3 (.q 4 (.q 5 (.q 6 (.q 7 (.q 8 (.q 9 (.q 10 (.q 11 (.l 12 (.l 13 (.l 14 (.l 15 (.l 16 .nil))))))))))))))))) ?_ ?_
  ·exact⟨Zad _,Zad _,z62⟩
  intro W4 z A;have l3:=F1.lim;have F4:=F1.below z;have l4:=F4.lim;have v4:=Zaf l3 z;have rm4:=rm.mono v4;have A4:=All.trans A1 (Fr.of_below (T:=All) l3 z);have ra4:=ra.fr RMsgZ.mono (Fr.of_below (T:=fun _=>False) l3 z) (fun h=>h)
  repeat((first|refine pq (h:=⟨_,fun w' A=>by(have I:=A.2;go_simp;exact rfl),?_⟩)|refine Zq ?_);simp only[sx])
  refine pl_q (by assumption) rfl rfl ?_;apply Exists.intro;refine⟨fun w' A=>Zg7 90 _ rfl _ _ rfl _ _ (fun j u hu=>Zaa A.1 _ _ (hp.out j u hu)) underlying90 rfl (by kernel_rfl),?_⟩;simp only[List.getElem_toArray,List.getElem_cons_zero,List.getElem_cons_succ,Act.put,List.setIfInBounds_toArray,List.set_cons_zero,List.set_cons_succ]
  repeat(refine Zq ?_;simp only[sx])
  refine Zd fun K c=>?_
  try simp only[sy]
  go_simp;have y:=Zac W4 (.cells #[.int .i64 m.src,.int .i64 m.dst,.int .i64 m.kind,.int .i64 m.bat.author,.int .i64 m.bat.number,.slice tA m.bat.txs.length tc,.int .i64 m.hdr.author,.int .i64 m.hdr.round,.slice bA m.hdr.batches.length bc,.slice pA m.hdr.parents.length pc,.int .i64 m.slt.author,.int .i64 m.slt.round,.slice dA' m.slt.digest.length dc',.int .i64 m.crt.hdr.author,.int .i64 m.crt.hdr.round,.slice cA m.crt.hdr.batches.length cc,.slice qA m.crt.hdr.parents.length qc,.slice vA m.crt.voters.length vc,.int .i64 m.round] 90);refine c.out _ _ (⟨A.1.trans (y.mono A.1.size),Zaa y _ _ A.2⟩) fun A=>?_
  clear c K
  try simp only[sx]
  repeat(refine Zq ?_;simp only[sx])
  refine Zc fun K c=>?_
  try simp only[sy]
  refine Zcf (n:=140737488355328) RMsgZ.mono m [.int .i64 m.src,.int .i64 m.dst,.int .i64 m.kind,.int .i64 m.bat.author,.int .i64 m.bat.number,.slice tA m.bat.txs.length tc,.int .i64 m.hdr.author,.int .i64 m.hdr.round,.slice bA m.hdr.batches.length bc,.slice pA m.hdr.parents.length pc,.int .i64 m.slt.author,.int .i64 m.slt.round,.slice dA' m.slt.digest.length dc',.int .i64 m.crt.hdr.author,.int .i64 m.crt.hdr.round,.slice cA m.crt.hdr.batches.length cc,.slice qA m.crt.hdr.parents.length qc,.slice vA m.crt.voters.length vc,.int .i64 m.round] Zjs _ _ rfl rfl ra4 l4 (by decide) rfl rfl rfl s2.out ⟨⟨_,_,_,_,_,_,_,rfl,rm4.txs,rm4.bats,rm4.pars,rm4.dig,rm4.cbats,rm4.cpars,rm4.vots⟩,g6⟩ (Za _) (by have:=H4.out;omega) (by have:=H4.out;omega) (fun v' w5 o5 r5 f5=>?_);obtain⟨A5,c5,rfl⟩:=r5.form;have g624:=g62.fr (.of_below (T:=fun _=>False) l3 z) F1.mark (fun h=>h);have g625:=g624.fr f5 F4.mark (by simp);have z625:=g625.cell (j:=0) (show 0<1 by decide);simp at z625;have A5':=All.trans A4 f5.all;have m5:=Zb6 F4.sg.rogue.lt f5 F4.mark (by simp);have l5:=f5.lim;obtain⟨LN,sa⟩:∃n,Hid ((f.away++[m]).length=n):=⟨_,rfl⟩;rw[sa.out]at r5⊢;refine c.out _ _ ?_;clear c K
  try simp only[sx]
  refine Zc fun K c=>?_
  try simp only[sy]
  go_simp;refine c.out _ _ ?_;clear c K
  try simp only[sx]
  refine Zc fun K c=>?_
  try simp only[sy]
  go_simp;refine c.out _ _ ?_;clear c K
  try simp only[sx]
  refine Zc fun K c=>?_
  try simp only[sy]
  refine Sec.wp_store g625 (i:=0) [.slice A5 LN c5] (show 0+1≤1 by decide) rfl rfl rfl (by kernel_rfl) rfl rfl ?_;intro w6 S6 h5 h6;have F6:=F4.newAway f5 r5 S6 h5 h6;have k6:=Zap l5 h5 m5;have A6:=All.trans A5' k6.all;rw[←t.out]at F6;clear A5' r5 F4 ra4 rm4 A4;refine c.out _ _ ?_;clear c K
  try simp only[sx]
  refine Zai ?_;go_wp2;go_end0;exact⟨rfl,o5,A6,F6⟩
 have kb6:(K==6)=false:=by simpa using k6
 by_cases k10:K=10
 ·have b:Hid (QR=f.away.foldl (fun g m=>come g m.dst m) {f with away:=[] }):=by
   show _=_;rw[←F.out];unfold doA;rw[if_neg (by rw[c.out];exact k1),if_neg (by rw[c.out];exact k45),if_neg (by rw[c.out];exact k6),if_pos (by rw[c.out];exact k10)]
  have kb10:(K==10)=true:=by simpa using k10
  clear k45 k1 k6 k10;obtain⟨va,g62,ra⟩:=id F1.away;have z62:=g62.cell (j:=0) (show 0<1 by decide);simp at z62;obtain⟨vaA,vac,hz⟩:=ra.form;subst hz;have M:=Zb R.out.away;have l1':=F1.lim;go_wp2_with (refine Sec.store g62 (i:=0) [.slice none 0 0] (show 0+1≤1 by decide) rfl rfl rfl rfl (by kernel_rfl) rfl rfl ?_);intro w3 S3 gb h3;have F3:=F1.putAway S3 gb h3 (Row.nil _ _ _ _ _ _);have k3:=Zap l1' gb F1.mark;have A3:=All.trans A1 k3.all;have ra3:=ra.fr RMsgZ.mono k3 (by simp);have T3:=T1.mono k3.view;have sd:=Za3 U k3 S;obtain⟨G,hG⟩:∃G,Hid (({ f with away:=[] }:Ft)=G):=⟨_,Zb rfl⟩;have g8:=Zb (flow_mi R.out);rw[hG.out]at F3 b g8;clear F1 g62 z62 S3 gb h3 ra U T1 A1 sd k3;obtain⟨l,hl⟩:∃l,Hid (f.away=l):=⟨_,rfl⟩;have hs:=Zb (fun m hm=>(R.out.wi.away m hm).2);rw[hl.out]at b g8 M hs ra3;rw[hl.out];clear R s5 ga gl gc gy F hb c0 c1 c2 c3 S;go_wp2_with fail
  go_loopw [9,108] (fun _ j wr=>∃(k:Nat) (o':Own) (g:Ft),k≤l.length∧j=.int .i64 k∧Hid ((l.take k).foldl (fun g m=>come g m.dst m) G=g)∧Fr All o w o' wr∧FtAt o' wr gf g∧Row o' (5,0) 19 RMsgZ 90 wr (.slice vaA l.length vac) l∧Tabs (Zas o' wr)) (fun _ j _=>l.length-(intOf j).toNat)
  case atStart=>exact⟨0,o,G,Zf _,rfl,rfl,A3,F3,ra3,T3⟩
  case round =>
   obtain⟨k,o1,g,a3,rfl,hg,A1,F1,rou1,T1⟩:=hrel
   by_cases L:k<l.length
   ·have gh:(k:Int)<l.length:=by omega
    have ho:=Zb L;have g7:=rou1.ownSl.reads (bs:=264) (fun _ _ _ _ hx _=>hx) (by have:=M.out;omega);obtain⟨A9,c9,g9,-,-,-,-,h2⟩:=g7;injection g9 with he1 _ he3;subst he1 he3;obtain⟨bb,bo,hA,h9⟩:=h2 (by omega);subst hA;obtain⟨cs9,-,B,⟨vt,vb,vp,vd,cb,cp,cv,rfl,rm⟩,g6⟩:=h9 k L;have gx:=Zb (show(l.take (k+1)).foldl (fun g m=>come g m.dst m) G=come g (l[k]).dst l[k] by rw[Zn L,List.foldl_append,hg.out];rfl);have sl:=Zb (hs.out l[k] (List.getElem_mem L));have HG:Hid (MI g):=by show MI g;rw[←hg.out];exact g8.out k
    generalize l[k]=m at *;have rm0:=rm;obtain⟨⟨tA,tc,rfl⟩,⟨bA,bc,rfl⟩,⟨pA,pc,rfl⟩,⟨dA',dc',rfl⟩,⟨cA,cc,rfl⟩,⟨qA,qc,rfl⟩,⟨vA,vc,rfl⟩⟩:=rm0.forms;clear rm0 h2 h9
    have hp:∀j v,(#[.int .i64 m.src,.int .i64 m.dst,.int .i64 m.kind,.int .i64 m.bat.author,.int .i64 m.bat.number,.slice tA m.bat.txs.length tc,.int .i64 m.hdr.author,.int .i64 m.hdr.round,.slice bA m.hdr.batches.length bc,.slice pA m.hdr.parents.length pc,.int .i64 m.slt.author,.int .i64 m.slt.round,.slice dA' m.slt.digest.length dc',.int .i64 m.crt.hdr.author,.int .i64 m.crt.hdr.round,.slice cA m.crt.hdr.batches.length cc,.slice qA m.crt.hdr.parents.length qc,.slice vA m.crt.voters.length vc,.int .i64 m.round]:Array Value).toList[j]?=some v→wr.cell? ((⟨bb,bo+k*19,none⟩:Addr).add j)=some v:=fun j v hj=>by
     have g0:j<19:=(List.getElem?_eq_some_iff.1 hj).1;rw[Zbs];exact(B j g0).trans hj
    clear B;have hn:=Blk.new wr 90 #[.int .i64 0,.int .i64 0,.int .i64 0,.int .i64 0,.int .i64 0,.slice none 0 0,.int .i64 0,.int .i64 0,.slice none 0 0,.slice none 0 0,.int .i64 0,.int .i64 0,.slice none 0 0,.int .i64 0,.int .i64 0,.slice none 0 0,.slice none 0 0,.slice none 0 0,.int .i64 0];have g3:=Zac wr (.cells #[.int .i64 0,.int .i64 0,.int .i64 0,.int .i64 0,.int .i64 0,.slice none 0 0,.int .i64 0,.int .i64 0,.slice none 0 0,.slice none 0 0,.int .i64 0,.int .i64 0,.slice none 0 0,.int .i64 0,.int .i64 0,.slice none 0 0,.slice none 0 0,.slice none 0 0,.int .i64 0] 90);go_wp2_with (first|(refine Zbe (n:=19) (#[.int .i64 m.src,.int .i64 m.dst,.int .i64 m.kind,.int .i64 m.bat.author,.int .i64 m.bat.number,.slice tA m.bat.txs.length tc,.int .i64 m.hdr.author,.int .i64 m.hdr.round,.slice bA m.hdr.batches.length bc,.slice pA m.hdr.parents.length pc,.int .i64 m.slt.author,.int .i64 m.slt.round,.slice dA' m.slt.digest.length dc',.int .i64 m.crt.hdr.author,.int .i64 m.crt.hdr.round,.slice cA m.crt.hdr.batches.length cc,.slice qA m.crt.hdr.parents.length qc,.slice vA m.crt.voters.length vc,.int .i64 m.round]:Array Value).toList rfl rfl rfl rfl (by kernel_rfl) (by kernel_rfl) (by kernel_rfl) hp ?_)|(refine Zj 19 hn ?_));intro W2 O C;have d:Below wr.heap.size wr W2:=Zab g3 g3.size C (by intro k e;injection e;omega);clear hn g3 C;have l1:=F1.lim;have F2':=F1.below d;have A2':=All.trans A1 (Fr.of_below (T:=All) l1 d);have v2:=Zaf l1 d;have rm2:=rm.mono v2;have T2':=T1.mono v2;have rou2:=rou1.fr RMsgZ.mono (Fr.of_below (T:=fun _=>False) l1 d) (fun h=>h);obtain⟨g2,gz⟩:∃g2,Hid (come g m.dst m=g2):=⟨_,rfl⟩;have hc:=Zl8 gf g m.dst m _ _ _ _ _ _ _ o1 W2 F2' T2' HG.out sl.out rm2 g6;rw[gz.out]at hc gx;have d1:=O.cell 1;simp at d1;clear hp A1 F1 rou1 T1 rm F2' rm2 hg gz;go_wp2_with (refine wpList_load_row rfl 90 _ rfl _ rfl _ _ _ _ O underlying90 rfl (by kernel_rfl) ?_);refine hc.mono ?_;rintro e w5 ⟨rfl,o5,⟨i5,a1,K5⟩,F5⟩;have A5:=All.trans A2' K5.fr.all
    have T5:=T2'.mono K5.fr.view;have rou5:=rou2.fr RMsgZ.mono K5.fr (by simp;omega);clear O hc d1 rou2 T2' A2' K5;have su:(k:Int)<400:=by have:=ho.out;have:=M.out;omega
    go_wp2;go_roundw
    case rel=>have:=ho.out;have:=M.out;exact⟨k+1,o5,g2,ho.out,by go_num,gx,A5,F5,rou5,T5⟩
    case measure=>have:=ho.out;have:=M.out;simp[intOf]<;>omega
   ·have s6:k=l.length:=by omega
    have gu:Hid (QR=g):=by
     show _=_;rw[b.out,←hg.out,s6,List.take_length]
    have gh:¬(k:Int)<l.length:=by omega
    rw[←gu.out]at F1;clear s6 hg gu;go_wp2;go_end0;exact⟨rfl,o1,A1,F1⟩
 have kb10:(K==10)=false:=by simpa using k10
 by_cases k9:K=9
 ·have b:Hid (QR=if decE (Zb9 a.text)=0∧0≤f.rogue then come f i (decM (Zb9 a.text))else f):=by
   show _=_;rw[←F.out];unfold doA;rw[if_neg (by rw[c.out];exact k1),if_neg (by rw[c.out];exact k45),if_neg (by rw[c.out];exact k6),if_neg (by rw[c.out];exact k10),if_pos (by rw[c.out];exact k9),Hi.out]
  have kb9:(K==9)=true:=by simpa using k9
  have hy:a.text.size≤140737488355328:=Zg (gc.out (by rw[c.out,k9];rfl)) (by decide);clear k45 k1 k6 k10 k9;go_wp2_with (refine Zhi _ underlying9 underlying53 underlying5 rfl _ rfl rfl hy ?_);intro vb w2 rb X;have F2:=F1.below X;have l2:=F2.lim;have T2:=T1.mono (Zaf l1 X);have A2:=All.trans A1 (Fr.of_below (T:=All) l1 X);have hf:=U.kept X;clear F1 T1 A1 U X;obtain⟨m,hm⟩:∃m,Hid (decM (Zb9 a.text)=m):=⟨_,rfl⟩;obtain⟨E,hE⟩:∃E,Hid (decE (Zb9 a.text)=E):=⟨_,rfl⟩;have Q:=Zju vb (Zb9 a.text) w2 rb;have s3:=Zb (decM_small (Zb9 a.text));rw[hm.out]at Q b s3;rw[hE.out]at Q b;obtain⟨_,r0,_⟩:=id F2.sg;have z0:=r0.cell (j:=0) (show 0<1 by decide);simp at z0;obtain⟨rg,V⟩:∃rg,Hid (f.rogue=rg):=⟨_,rfl⟩;rw[V.out]at b z0;clear F r0;go_wp2_with fail;refine Q.mono ?_;rintro e w3 ⟨vt,vb,vp,vd,cb,cp,cv,rfl,h8,rm3⟩;have F3:=F2.below h8;have T3:=T2.mono (Zaf l2 h8);have A3:=All.trans A2 (Fr.of_below (T:=All) l2 h8);have z3:=Zaa h8 _ _ z0;have D:=hf.kept h8;have l3:=F3.lim;have rm0:=rm3;obtain⟨⟨tA,tc,rfl⟩,⟨bA,bc,rfl⟩,⟨pA,pc,rfl⟩,⟨dA',dc',rfl⟩,⟨cA,cc,rfl⟩,⟨qA,qc,rfl⟩,⟨eA,ec,rfl⟩⟩:=rm0.forms;have rm3':=rm3.mono (Zbz l2);clear rm0 rm3 z0 hf Q F2 T2 A2;unfold msgC;have H:=Blk.new w3 90 #[.int .i64 0,.int .i64 0,.int .i64 0,.int .i64 0,.int .i64 0,.slice none 0 0,.int .i64 0,.int .i64 0,.slice none 0 0,.slice none 0 0,.int .i64 0,.int .i64 0,.slice none 0 0,.int .i64 0,.int .i64 0,.slice none 0 0,.slice none 0 0,.slice none 0 0,.int .i64 0];have y:=Zac w3 (.cells #[.int .i64 0,.int .i64 0,.int .i64 0,.int .i64 0,.int .i64 0,.slice none 0 0,.int .i64 0,.int .i64 0,.slice none 0 0,.slice none 0 0,.int .i64 0,.int .i64 0,.slice none 0 0,.int .i64 0,.int .i64 0,.slice none 0 0,.slice none 0 0,.slice none 0 0,.int .i64 0] 90);go_wp2_with (refine Zj 19 H ?_);intro w4 O C;have d:Below w3.heap.size w3 w4:=Zab y y.size C (by intro k e;injection e;omega);have F4:=F3.below d;have A4:=All.trans A3 (Fr.of_below (T:=All) l3 d)
  have T4:=T3.mono (Zaf l3 d);have rm4:=rm3'.mono (Zaf l3 d);have z4:=Zaa d _ _ z3;have si:=D.kept d;have d1:=si.cell 1;simp at d1;clear H y C F3 rm3' T3 z3 D d
  by_cases e0:E=0
  ·have eb:(E==0)=true:=by simpa using e0
   by_cases r0:0≤rg
   ·have t:Hid (QR=come f i m):=by show _=_;rw[b.out,if_pos ⟨e0,r0⟩]
    have hc:=Zl8 gf f i m _ _ _ _ _ _ _ o w4 F4 T4 R.out ⟨sf,by omega⟩ rm4 s3.out;rw[←t.out]at hc;clear b t e0 F4 T4 rm4;go_wp2_with (refine wpList_load_row rfl 90 _ rfl _ rfl _ _ _ _ O underlying90 rfl (by kernel_rfl) ?_);refine hc.mono ?_;rintro e w5 ⟨rfl,o5,⟨i5,_,K5⟩,F5⟩;clear O hc;go_wp2;go_end0;exact⟨rfl,o5,All.trans A4 K5.fr.all,F5⟩
   ·have t:Hid (QR=f):=by show _=_;rw[b.out,if_neg (fun h=>r0 h.2)]
    rw[←t.out]at F4;clear b t e0 T4 rm4 O;go_wp2;go_end0;exact⟨rfl,o,A4,F4⟩
  ·have eb:(E==0)=false:=by simpa using e0
   have t:Hid (QR=f):=by show _=_;rw[b.out,if_neg (fun h=>e0 h.1)]
   rw[←t.out]at F4;clear b t e0 T4 rm4 O;go_wp2;go_end0;exact⟨rfl,o,A4,F4⟩
 have kb9:(K==9)=false:=by simpa using k9
 have b:Hid (QR=if (i:Int)≠f.rogue then act f a else f):=by
  show _=_;rw[←F.out];unfold doA;rw[if_neg (by rw[c.out];exact k1),if_neg (by rw[c.out];exact k45),if_neg (by rw[c.out];exact k6),if_neg (by rw[c.out];exact k10),if_neg (by rw[c.out];exact k9),Hi.out]
 clear k45 k1 k6 k10 k9;go_upto_region 2 with fail;obtain⟨_,r0,_⟩:=id F1.sg;have z0:=r0.cell (j:=0) (show 0<1 by decide);simp at z0;obtain⟨rg,V⟩:∃rg,Hid (f.rogue=rg):=⟨_,rfl⟩;rw[V.out]at b z0;refine Zt (fun w'=>Below W.heap.size W w') (fun w'=>Below W.heap.size W w') [] (.q 0 (.q 1 (.q 2 (.q 3 (.q 4 (.q 5 (.q 6 .nil))))))) ?_ ?_
 ·exact⟨Zad _,Zad _⟩
 intro W2 z A
 repeat((first|refine pq (h:=⟨_,fun w' A=>by(have I:=Zaa A _ _ z0;have h1:=Zaa A _ _ c1;go_simp;exact rfl),?_⟩)|refine Zq ?_);simp only[sx])
 refine Zai ?_;have F2:=F1.below A;have T2:=T1.mono (Zaf l1 A);have A2:=All.trans A1 (Fr.of_below (T:=All) l1 A);have hf:=U.kept A
 by_cases hr:(i:Int)=rg
 ·have t:Hid (QR=f):=by show _=_;rw[b.out,if_neg (by simpa using hr)]
  rw[←t.out]at F2;have sk:((i:Int)==rg)=true:=by simpa using hr
  clear hr b r0 z0 V;go_wp2;go_end0;exact⟨rfl,o,A2,F2⟩
 ·have t:Hid (QR=act f a):=by show _=_;rw[b.out,if_pos hr]
  have sk:((i:Int)==rg)=false:=by simpa using hr
  have gs:=act_any gf f a o W2 F2 T2 R.out gl.out gy.out (by rw[Hi.out,V.out];exact hr) s5.out;rw[Hi.out,c.out,Z.out,←t.out]at gs;clear b r0 z0 hr F2;go_wp2_with (refine wpList_load_row rfl 48 _ rfl _ rfl _ _ _ _ hf underlying48 rfl (by kernel_rfl) ?_);refine gs.mono ?_;rintro e w3 ⟨rfl,o3,A3,F3⟩;go_wp2;go_end0;exact⟨rfl,o3,All.trans A2 A3,F3⟩
end Fl
end Go.Proofs.YtbcpbnfojfiekaaGreatDoor
