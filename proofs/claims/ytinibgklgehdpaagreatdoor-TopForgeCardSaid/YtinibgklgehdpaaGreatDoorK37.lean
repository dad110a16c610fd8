/- A part of what the last text stands on. -/
import Derived.Test.YtinibgklgehdpaaGreatDoorK03
import Derived.Test.YtinibgklgehdpaaGreatDoorK09
import Derived.Test.YtinibgklgehdpaaGreatDoorK36
namespace Go.Proofs.YtinibgklgehdpaaGreatDoor
open Go.ChangeShapes Go.WideShapes Go.ChangeAt Go.RowKit Qa Qb Qc
set_option linter.all false
set_option maxHeartbeats 20000000
set_option maxRecDepth 100000
variable{w w':World}{v:Value}{h:View}{e:TypeId}{i sz b:Nat}{α:Type}{xs:List α}{R:View→List Value→α→Prop}
namespace Fl
theorem Zue(f:Ft)(a:At)(hi:a.node=i):Zkc f a=subE f.rogue (Zan f i) a.text:=by
 unfold Zkc subE;rw[hi]
theorem Zy5(f:Ft)(a:At)(hl:f.nodes.length=4)(h4:i<4)(hi:a.node=i):submit f a=Za1 f i (subN f.rogue (Zan f i) a.text):=by
 unfold submit subN;rw[←Zue f a hi,hi];split
 ·rfl
 ·rw[Zjb hl (by omega)]
theorem Zx3:Elem Tryz.prog 26 45 1 8:=Znz (z:=.int .i64 0) Tryz.underlying26 (by kernel_rfl) rfl (by decide)
theorem do_any(gf:Nat)(f:Ft)(a:At)(o:Own)(w:World)(hF:FtAt o w gf f)(hT:Tabs (Zas o w))(hM:MI f)(ha:actE a=0)(hsg:f.signs.length≤1000000000)(hcd:f.codes.length≤1000000000) :
 Calls Tryz.prog 52 #[.pointer (some ⟨gf,0,none⟩),.agg #[.int .i64 a.kind,.int .i64 a.node,.int .i64 a.pick,.string a.text]] w fun e w'=>e=.returned (.tuple #[])∧∃o',Fr All o w o' w'∧FtAt o' w' gf (doA f a):=by
 obtain⟨QR,hQR⟩:∃q,Hid (doA f a=q):=⟨_,rfl⟩;rw[hQR.out];obtain⟨hok,hpk,htx,hkr⟩:=Zpm ha;have Hok:=Lib.hid hok;have Hpk:=Lib.hid hpk;have Htx:=Lib.hid htx;have HM:=Lib.hid hM;have Hsg:=Lib.hid hsg;have Hcd:=Lib.hid hcd;obtain⟨i,hi⟩:∃i:Nat,a.node=i:=⟨a.node.toNat,by have:=hok.1.1;omega⟩;have hi4:i<4:=by have:=hok.1.2;omega
 have Hi:=Lib.hid hi;obtain⟨K,hK⟩:∃K,Hid (a.kind=K):=⟨_,rfl⟩;obtain⟨PP,hPP⟩:∃P,Hid (a.pick=P):=⟨_,rfl⟩;rw[hi,hK.out,hPP.out];have hp0:0≤PP:=by rw[←hPP.out];exact hok.2
 have hiI:(i:Int)<4:=by omega
 have hi0:(0:Int)≤(i:Int):=by omega
 clear hok hpk htx hkr hM hsg hcd hi ha
 go_enter Tryz.func52,Tryz.ntmps52
 go_upto_region 1 with fail
 refine Zo fun W hk hsz hb=>?_
 have F1:=hF.below hb;have T1:=hT.mono (Zae hF.lim hb);have A1:Fr All o w o W:=Fr.of_below hF.lim hb;have l1:=F1.lim;have hx0:=hF.lim.none w.heap.size (Nat.le_refl _);have c0:=hk.cell 0;have c1:=hk.cell 1;have c2:=hk.cell 2;have c3:=hk.cell 3;simp at c0 c1 c2 c3;clear hF hT hsz
 by_cases k1:K=1
 ·have kb:(K==1)=true:=by simpa using k1
  have hq:Hid (QR={ Za1 f i (subN f.rogue (Zan f i) a.text)with codes:=f.codes++[subE f.rogue (Zan f i) a.text] }):=by
   show _=_;rw[←hQR.out];unfold doA;rw[if_pos (hK.out.trans k1),Zy5 f a F1.len hi4 Hi.out,Zue f a Hi.out]
  have htz:a.text.size≤140737488355328:=Nat.le_trans (Htx.out (by rw[hK.out,k1];rfl)) (by decide);clear k1;obtain⟨vc,g63,rc⟩:=id F1.codes;have z63:=g63.cell (j:=0) (show 0<1 by decide);simp at z63;obtain⟨vcA,vcc,hvc⟩:=rc.form;subst hvc
  go_upto_region 5 with fail
  refine Zt (fun w'=>Below W.heap.size W w') (fun w'=>Blk w' w.heap.size 58 #[.int .i64 K,.int .i64 (i:Int),.int .i64 PP,.string a.text]∧w'.cell? ⟨gf,63,none⟩=some (.slice vcA f.codes.length vcc)) [19] (.q 0 (.q 1 (.q 2 (.q 3 (.q 4 (.q 5 (.q 6 (.q 7 (.q 8 (.q 9 (.q 10 (.q 11 (.q 12 (.q 13 (.l 14 (.l 15 (.l 16 (.q 17 (.q 18 (.l 19 .nil)))))))))))))))))))) ?_ ?_
  ·exact⟨Zad _,hk.drew,z63⟩
  intro W2 hS0 hS
  repeat((first|refine pq (h:=⟨_,fun w' hS=>by(have h0:=hS.2;have x:=hS.1;have h1:=x.cell 1;have h3:=x.cell 3;simp at h1 h3;go_simp;exact rfl),?_⟩)|refine Zq ?_);simp only[sx])
  have F2:=F1.below hS0;have T2:=T1.mono (Zae l1 hS0);have A2:=All.trans A1 (Fr.of_below (T:=All) l1 hS0);have l2:=F2.lim;have g632:=g63.fr (Fr.of_below (T:=fun _=>False) l1 hS0) F1.mark (fun h=>h);have rc2:=rc.fr RI.mono (Fr.of_below (T:=fun _=>False) l1 hS0) (fun h=>h);refine Zd fun K hK=>?_
  try simp only[sy]
  go_simp;refine(Zsj gf i f.rogue f.signs (Zan f i) a.text o W2 l2 hi4 F2.sg (F2.node i hi4) (HM.out.mn i (by omega) (by omega)).pool htz).mono ?_;rintro e W3 ⟨rfl,K3,N3⟩;have F3:=F2.step hi4 K3 N3;have A3:=All.trans A2 K3.fr.all;have hk3:=Za3 hS.1 K3.fr hx0;have g633:=g632.only K3.only (.inr (by omega));have z633:=g633.cell (j:=0) (show 0<1 by decide);simp at z633;have rc3:=rc2.fr RI.mono K3.fr (by simp;omega);have l3:=F3.lim;obtain⟨E,hE⟩:∃E,Hid (subE f.rogue (Zan f i) a.text=E):=⟨_,rfl⟩;rw[hE.out]at hq⊢;refine hK.out _ _ (⟨hk3,z633⟩) fun hS=>?_
  clear hK K
  try simp only[sx]
  repeat(refine Zq ?_;simp only[sx])
  refine Zd fun K hK=>?_
  try simp only[sy]
  go_simp;have hb4:=Zac W3 (.cells #[.int .i64 E] 45);refine hK.out _ _ (⟨hk3.kept hb4,Zaa hb4 _ _ z633⟩) fun hS=>?_
  clear hK K
  try simp only[sx]
  repeat(refine Zq ?_;simp only[sx])
  refine Zd fun K hK=>?_
  try simp only[sy]
  refine Zce (n:=140737488355328) RI.mono E [.int .i64 E] Zx3 _ _ rfl rfl rc3 l3 (by decide) rfl rfl rfl rfl (show RI _ _ _ from rfl) (Nat.le_refl _) (show(f.codes.length+1)*8≤140737488355328 by have:=Hcd.out;omega) (show f.codes.length+1≤140737488355328 by have:=Hcd.out;omega) (fun v' w5 o5 r5 f5=>?_);obtain⟨A5,c5,rfl⟩:=r5.form;have hk5:=Za3 hk3 f5 hx0;have g635:=g633.fr f5 F3.mark (by simp);have z635:=g635.cell (j:=0) (show 0<1 by decide);simp at z635;refine hK.out _ _ (⟨hk5,z635⟩) fun hS=>?_
  clear hK K
  try simp only[sx]
  repeat(refine Zq ?_;simp only[sx])
  refine Zc fun K hK=>?_
  try simp only[sy]
  refine Sec.wp_store g635 (i:=0) [.slice A5 (f.codes++[E]).length c5] (show 0+1≤1 by decide) rfl rfl rfl (by kernel_rfl) rfl rfl ?_;intro w6 S6 hg6 h6;have m5:=Zb5 F3.sg.rogue.lt f5 F3.mark (by simp);have k6:=Zaq f5.lim hg6 m5;have F6:=F3.newCodes f5 r5 S6 hg6 h6;rw[←hq.out]at F6;have A6:=All.trans A3 (All.trans f5.all k6.all);refine hK.out _ _ ?_;clear hK K
  try simp only[sx]
  repeat(refine Zq ?_;simp only[sx])
  refine Zah ?_;clear F1 F2 F3 T1 T2 A1 A2 A3 rc rc2 rc3 r5 hk hk3 hk5 S6;go_wp2;go_end0;exact⟨rfl,o5,A6,F6⟩
 have kb1:(K==1)=false:=by simpa using k1
 by_cases k45:K=4∨K=5
 ·have hq0:Hid (QR=match f.away[pick f PP]? with|none=>f|some m=>if K=4 then come {f with away:=f.away.eraseIdx (pick f PP) } m.dst m else {f with away:=f.away.eraseIdx (pick f PP) }):=by
   show _=_;rw[←hQR.out];unfold doA;rw[if_neg (by rw[hK.out];exact k1),if_pos (by rw[hK.out];exact k45),hPP.out,hK.out]
   cases f.away[pick f PP]?<;>rfl
  have kb4:∃b4 b5,(K==4)=b4∧(K==5)=b5∧(b4=true∨b5=true):=⟨_,_,rfl,rfl,by simpa using k45⟩;obtain⟨b4,b5,e4,e5,e45⟩:=kb4;have hb4:Hid (b4=true↔K=4):=by show _↔_;rw[←e4];simp
  clear k45 k1;obtain⟨J,hJ⟩:∃J,Hid (pick f PP=J):=⟨_,rfl⟩;rw[hJ.out]at hq0;have hpk:=Zrk gf f PP o W F1 hp0 HM.out.away;rw[hJ.out]at hpk
  have hlt:Hid (f.away.length≠0→J<f.away.length):=by
   intro h0;rw[←hJ.out];unfold pick;have:=Int.emod_lt_of_pos PP (show(0:Int)<f.away.length by omega);have:=Int.emod_nonneg PP (show(f.away.length:Int)≠0 by omega);omega
  by_cases h0:f.away.length=0
  ·rw[if_pos h0]at hpk
   have hq:Hid (QR=f):=by
    show _=_;rw[hq0.out,List.getElem?_eq_none (by omega)]
   rw[←hq.out]at F1;clear h0 hq0
   cases b4<;>cases b5
   ·simp at e45
   all_goals
    go_wp2_with fail
    refine hpk.mono ?_;rintro e w2 ⟨rfl,rfl⟩;go_wp2;go_end0;exact⟨rfl,o,A1,F1⟩
  rw[if_neg h0]at hpk;have hJlt:=hlt.out h0;obtain⟨m,hm⟩:∃m,Hid (f.away[J]=m):=⟨_,Lib.hid rfl⟩;have haw:=HM.out.wi.away f.away[J] (List.getElem_mem hJlt);have hrem:=Zsr gf J f o W F1 hJlt HM.out.away;have hMI:MI {f with away:=f.away.eraseIdx J }:=HM.out.awayed (fun x hx=>HM.out.wi.away x (List.mem_of_mem_eraseIdx hx)) (Nat.le_trans Zpe HM.out.away)
  have hq:Hid (QR=if K=4 then come {f with away:=f.away.eraseIdx J } m.dst m else {f with away:=f.away.eraseIdx J }):=by
   show _=_;rw[hq0.out,List.getElem?_eq_getElem hJlt];simp only;rw[←hm.out]
  have HMI:=Lib.hid hMI
  have hrem':Calls Tryz.prog 85 #[.pointer (some ⟨gf,0,none⟩),.int .i64 (J:Int)] W fun e w'=>∃vt vb vp vd cb cp cv,e=.returned (.agg (msgC m vt vb vp vd cb cp cv))∧∃o',Fr All o W o' w'∧FtAt o' w' gf {f with away:=f.away.eraseIdx J }∧RMsg (Zas o' w') m vt vb vp vd cb cp cv∧∀s∈m.bat.txs,s.size≤140737488355328:=by
   rw[←hm.out];exact hrem
  have Hrem:=Lib.hid hrem';have haw':Zhe m:=by rw[←hm.out];exact haw
  have Haw:=Lib.hid haw';obtain⟨G,hG⟩:∃G,Hid (({ f with away:=f.away.eraseIdx J }:Ft)=G):=⟨_,Lib.hid rfl⟩;rw[hG.out]at hq HMI Hrem;have hJ0:(0:Int)≤(J:Int):=by omega
  clear hrem hrem' haw haw' hMI hm hJlt h0 hq0 hlt
  cases b4<;>cases b5
  ·simp at e45
  ·have hq2:Hid (QR=G):=by show _=_;rw[hq.out,if_neg (by rw[←hb4.out];decide)]
   clear hq hb4
   go_wp2_with fail
   refine hpk.mono ?_;rintro e w2 ⟨rfl,rfl⟩
   go_wp2_with fail
   refine Hrem.out.mono ?_;rintro e w3 ⟨vt,vb,vp,vd,cb,cp,cv,rfl,o3,A3,F3,rm3,hs3⟩;rw[←hq2.out]at F3;have A13:=All.trans A1 A3;have hk3:=Za3 hk A3 hx0;have d0:=hk3.cell 0;simp at d0;have rm0:=rm3;obtain⟨⟨tA,tc,rfl⟩,⟨bA,bc,rfl⟩,⟨pA,pc,rfl⟩,⟨dA',dc',rfl⟩,⟨cA,cc,rfl⟩,⟨qA,qc,rfl⟩,⟨eA,ec,rfl⟩⟩:=rm0.forms;clear rm0;unfold msgC;have hn5:=Blk.new w3 66 #[.int .i64 0,.int .i64 0,.int .i64 0,.int .i64 0,.int .i64 0,.slice none 0 0,.int .i64 0,.int .i64 0,.slice none 0 0,.slice none 0 0,.int .i64 0,.int .i64 0,.slice none 0 0,.int .i64 0,.int .i64 0,.slice none 0 0,.slice none 0 0,.slice none 0 0,.int .i64 0];have hb5:=Zac w3 (.cells #[.int .i64 0,.int .i64 0,.int .i64 0,.int .i64 0,.int .i64 0,.slice none 0 0,.int .i64 0,.int .i64 0,.slice none 0 0,.slice none 0 0,.int .i64 0,.int .i64 0,.slice none 0 0,.int .i64 0,.int .i64 0,.slice none 0 0,.slice none 0 0,.slice none 0 0,.int .i64 0] 66)
   go_wp2_with (refine Zj 19 hn5 ?_)
   intro w4 hX hgX;have hbX:Below w3.heap.size w3 w4:=Zab hb5 hb5.size hgX (by intro k e;injection e;omega);have F4:=F3.below hbX;have A4:=All.trans A13 (Fr.of_below (T:=All) F3.lim hbX);have d0':=Zaa hbX _ _ d0;clear hn5 hb5 hgX hX F1 F3 rm3 hpk T1;go_wp2;go_end0;exact⟨rfl,o3,A4,F4⟩
  all_goals
   have hq2:Hid (QR=come G m.dst m):=by show _=_;rw[hq.out,if_pos (hb4.out.1 rfl)]
   clear hq hb4
   go_wp2_with fail
   refine hpk.mono ?_;rintro e w2 ⟨rfl,rfl⟩
   go_wp2_with fail
   refine Hrem.out.mono ?_;rintro e w3 ⟨vt,vb,vp,vd,cb,cp,cv,rfl,o3,A3,F3,rm3,hs3⟩;have A13:=All.trans A1 A3;have hk3:=Za3 hk A3 hx0;have d0:=hk3.cell 0;simp at d0;have T3:=T1.mono A3.view;have rm0:=rm3;obtain⟨⟨tA,tc,rfl⟩,⟨bA,bc,rfl⟩,⟨pA,pc,rfl⟩,⟨dA',dc',rfl⟩,⟨cA,cc,rfl⟩,⟨qA,qc,rfl⟩,⟨eA,ec,rfl⟩⟩:=rm0.forms;clear rm0;unfold msgC;have hn5:=Blk.new w3 66 #[.int .i64 0,.int .i64 0,.int .i64 0,.int .i64 0,.int .i64 0,.slice none 0 0,.int .i64 0,.int .i64 0,.slice none 0 0,.slice none 0 0,.int .i64 0,.int .i64 0,.slice none 0 0,.int .i64 0,.int .i64 0,.slice none 0 0,.slice none 0 0,.slice none 0 0,.int .i64 0];have hb5:=Zac w3 (.cells #[.int .i64 0,.int .i64 0,.int .i64 0,.int .i64 0,.int .i64 0,.slice none 0 0,.int .i64 0,.int .i64 0,.slice none 0 0,.slice none 0 0,.int .i64 0,.int .i64 0,.slice none 0 0,.int .i64 0,.int .i64 0,.slice none 0 0,.slice none 0 0,.slice none 0 0,.int .i64 0] 66)
   go_wp2_with (refine Zj 19 hn5 ?_)
   intro w4 hX hgX;have hbX:Below w3.heap.size w3 w4:=Zab hb5 hb5.size hgX (by intro k e;injection e;omega);have F4:=F3.below hbX;have A4:=All.trans A13 (Fr.of_below (T:=All) F3.lim hbX);have T4:=T3.mono (Zae F3.lim hbX);have rm4:=rm3.mono (Zae F3.lim hbX);have d0':=Zaa hbX _ _ d0;have d1:=hX.cell 1;simp at d1;clear hn5 hb5 hgX F1 F3 rm3 hpk T1 T3
   go_wp2_with (refine wpList_load_row rfl 66 _ rfl _ rfl _ _ _ _ hX Tryz.underlying66 rfl (by kernel_rfl) ?_)
   refine(Zle gf G m.dst m _ _ _ _ _ _ _ o3 w4 F4 T4 HMI.out Haw.out.2 rm4 hs3).mono ?_;rintro e w5 ⟨rfl,o5,⟨i5,_,K5⟩,F5⟩;rw[←hq2.out]at F5;clear hX F4 T4 rm4;go_wp2;go_end0;exact⟨rfl,o5,All.trans A4 K5.fr.all,F5⟩
 have kb4:(K==4)=false:=by simpa using fun e=>k45 (.inl e)
 have kb5:(K==5)=false:=by simpa using fun e=>k45 (.inr e)
 by_cases k6:K=6
 ·have hq0:Hid (QR=match f.away[pick f PP]? with|none=>f|some m=>if f.away.length<400 then {f with away:=f.away++[m] } else f):=by
   show _=_;rw[←hQR.out];unfold doA;rw[if_neg (by rw[hK.out];exact k1),if_neg (by rw[hK.out];exact k45),if_pos (by rw[hK.out];exact k6),hPP.out]
   cases f.away[pick f PP]?<;>rfl
  have kb6:(K==6)=true:=by simpa using k6
  clear k45 k1 k6;obtain⟨J,hJ⟩:∃J,Hid (pick f PP=J):=⟨_,rfl⟩;rw[hJ.out]at hq0;have hpk:=Zrk gf f PP o W F1 hp0 HM.out.away;rw[hJ.out]at hpk;obtain⟨va,g62,ra⟩:=id F1.away;have z62:=g62.cell (j:=0) (show 0<1 by decide);simp at z62;obtain⟨vaA,vac,hva⟩:=ra.form;subst hva
  by_cases h0:f.away.length=0
  ·rw[if_pos h0]at hpk
   have hq:Hid (QR=f):=by
    show _=_;rw[hq0.out,List.getElem?_eq_none (by omega)]
   rw[←hq.out]at F1;clear h0 hq0 ra g62 z62
   go_wp2_with fail
   refine hpk.mono ?_;rintro e w2 ⟨rfl,rfl⟩;go_wp2;go_end0;exact⟨rfl,o,A1,F1⟩
  rw[if_neg h0]at hpk
  have hJlt:J<f.away.length:=by
   rw[←hJ.out];unfold pick;have:=Int.emod_lt_of_pos PP (show(0:Int)<f.away.length by omega);have:=Int.emod_nonneg PP (show(f.away.length:Int)≠0 by omega);omega
  have hJ0:(0:Int)≤(J:Int):=by omega
  by_cases h4:f.away.length<400
  rotate_left
  ·have hq:Hid (QR=f):=by
    show _=_;rw[hq0.out,List.getElem?_eq_getElem hJlt];simp only;rw[if_neg h4]
   rw[←hq.out]at F1;have h4I:¬(f.away.length:Int)<400:=by omega
   clear h0 hq0 ra g62 hJlt h4
   go_wp2_with fail
   refine hpk.mono ?_;rintro e w2 ⟨rfl,rfl⟩;go_wp2;go_end0;exact⟨rfl,o,A1,F1⟩
  have hq:Hid (QR={ f with away:=f.away++[f.away[J]] }):=by
   show _=_;rw[hq0.out,List.getElem?_eq_getElem hJlt];simp only;rw[if_pos h4]
  have h4I:(f.away.length:Int)<400:=by omega
  have hJI:(J:Int)<f.away.length:=by omega
  have hrd:=ra.ownSl.reads (bs:=264) (fun _ _ _ _ hx _=>hx) (by omega);obtain⟨A9,c9,he9,-,-,-,-,h59⟩:=hrd;injection he9 with he1 _ he3;subst he1 he3;obtain⟨bb,bo,hA,hcc⟩:=h59 (by omega);subst hA;obtain⟨cs9,-,hcell,⟨vt,vb,vp,vd,cb,cp,cv,rfl,rm⟩,hts⟩:=hcc J hJlt;generalize f.away[J]=m at *;have rm0:=rm;obtain⟨⟨tA,tc,rfl⟩,⟨bA,bc,rfl⟩,⟨pA,pc,rfl⟩,⟨dA',dc',rfl⟩,⟨cA,cc,rfl⟩,⟨qA,qc,rfl⟩,⟨vA,vc,rfl⟩⟩:=rm0.forms;clear rm0 h59 hcc
  have hcs:=Lib.hid (show ∀j v,(#[.int .i64 m.src,.int .i64 m.dst,.int .i64 m.kind,.int .i64 m.bat.author,.int .i64 m.bat.number,.slice tA m.bat.txs.length tc,.int .i64 m.hdr.author,.int .i64 m.hdr.round,.slice bA m.hdr.batches.length bc,.slice pA m.hdr.parents.length pc,.int .i64 m.slt.author,.int .i64 m.slt.round,.slice dA' m.slt.digest.length dc',.int .i64 m.crt.hdr.author,.int .i64 m.crt.hdr.round,.slice cA m.crt.hdr.batches.length cc,.slice qA m.crt.hdr.parents.length qc,.slice vA m.crt.voters.length vc,.int .i64 m.round]:Array Value).toList[j]?=some v→W.cell? ⟨bb,bo+J*19+j,none⟩=some v from fun j v hj=>by
   have hj':j<19:=(List.getElem?_eq_some_iff.1 hj).1
   exact(hcell j hj').trans hj)
  have Hone:Hid (((#[.int .i64 m.src,.int .i64 m.dst,.int .i64 m.kind,.int .i64 m.bat.author,.int .i64 m.bat.number,.slice tA m.bat.txs.length tc,.int .i64 m.hdr.author,.int .i64 m.hdr.round,.slice bA m.hdr.batches.length bc,.slice pA m.hdr.parents.length pc,.int .i64 m.slt.author,.int .i64 m.slt.round,.slice dA' m.slt.digest.length dc',.int .i64 m.crt.hdr.author,.int .i64 m.crt.hdr.round,.slice cA m.crt.hdr.batches.length cc,.slice qA m.crt.hdr.parents.length qc,.slice vA m.crt.voters.length vc,.int .i64 m.round]:Array Value).toList.all fun u=>u.oneCell')=true):=rfl;have H4:=Lib.hid h4;clear hcell hq0 h0 hJlt h4
  go_wp2_with fail
  refine hpk.mono ?_;rintro e w2 ⟨rfl,rfl⟩
  go_upto_region 16 with fail
  refine Zt (fun w'=>Below w2.heap.size w2 w') (fun w'=>Below w2.heap.size w2 w'∧w'.cell? ⟨gf,62,none⟩=some (.slice (some ⟨bb,bo,none⟩) f.away.length vac)) [0,13,14,15,16] (.qc 0 (.q 1 (.q 2 (.q 3 (.q 4 (.q 5 (.q 6 (.q 7 (.q 8 (.q 9 (.q 10 (.q 11 (.l 12 (.l 13 (.l 14 (.l 15 (.l 16 .nil))))))))))))))))) ?_ ?_
  ·exact⟨Zad _,Zad _,z62⟩
  intro W4 hS0 hS;have l3:=F1.lim;have F4:=F1.below hS0;have l4:=F4.lim;have v4:=Zae l3 hS0;have rm4:=rm.mono v4;have A4:=All.trans A1 (Fr.of_below (T:=All) l3 hS0);have ra4:=ra.fr RMsgZ.mono (Fr.of_below (T:=fun _=>False) l3 hS0) (fun h=>h)
  repeat((first|refine pq (h:=⟨_,fun w' hS=>by(have h0:=hS.2;go_simp;exact rfl),?_⟩)|refine Zq ?_);simp only[sx])
  refine pl_q (by assumption) rfl rfl ?_;apply Exists.intro;refine⟨fun w' hS=>Zmn 66 _ rfl _ _ rfl _ _ (fun j u hu=>Zaa hS.1 _ _ (hcs.out j u hu)) Tryz.underlying66 rfl (by kernel_rfl),?_⟩;simp only[List.getElem_toArray,List.getElem_cons_zero,List.getElem_cons_succ,Act.put,List.setIfInBounds_toArray,List.set_cons_zero,List.set_cons_succ]
  repeat(refine Zq ?_;simp only[sx])
  refine Zd fun K hK=>?_
  try simp only[sy]
  go_simp;have hb5:=Zac W4 (.cells #[.int .i64 m.src,.int .i64 m.dst,.int .i64 m.kind,.int .i64 m.bat.author,.int .i64 m.bat.number,.slice tA m.bat.txs.length tc,.int .i64 m.hdr.author,.int .i64 m.hdr.round,.slice bA m.hdr.batches.length bc,.slice pA m.hdr.parents.length pc,.int .i64 m.slt.author,.int .i64 m.slt.round,.slice dA' m.slt.digest.length dc',.int .i64 m.crt.hdr.author,.int .i64 m.crt.hdr.round,.slice cA m.crt.hdr.batches.length cc,.slice qA m.crt.hdr.parents.length qc,.slice vA m.crt.voters.length vc,.int .i64 m.round] 66);refine hK.out _ _ (⟨hS.1.trans (hb5.mono hS.1.size),Zaa hb5 _ _ hS.2⟩) fun hS=>?_
  clear hK K
  try simp only[sx]
  repeat(refine Zq ?_;simp only[sx])
  refine Zc fun K hK=>?_
  try simp only[sy]
  refine Zce (n:=140737488355328) RMsgZ.mono m [.int .i64 m.src,.int .i64 m.dst,.int .i64 m.kind,.int .i64 m.bat.author,.int .i64 m.bat.number,.slice tA m.bat.txs.length tc,.int .i64 m.hdr.author,.int .i64 m.hdr.round,.slice bA m.hdr.batches.length bc,.slice pA m.hdr.parents.length pc,.int .i64 m.slt.author,.int .i64 m.slt.round,.slice dA' m.slt.digest.length dc',.int .i64 m.crt.hdr.author,.int .i64 m.crt.hdr.round,.slice cA m.crt.hdr.batches.length cc,.slice qA m.crt.hdr.parents.length qc,.slice vA m.crt.voters.length vc,.int .i64 m.round] Zi6 _ _ rfl rfl ra4 l4 (by decide) rfl rfl rfl Hone.out ⟨⟨_,_,_,_,_,_,_,rfl,rm4.txs,rm4.bats,rm4.pars,rm4.dig,rm4.cbats,rm4.cpars,rm4.vots⟩,hts⟩ (Nat.le_refl _) (by have:=H4.out;omega) (by have:=H4.out;omega) (fun v' w5 o5 r5 f5=>?_);obtain⟨A5,c5,rfl⟩:=r5.form;have g624:=g62.fr (.of_below (T:=fun _=>False) l3 hS0) F1.mark (fun h=>h);have g625:=g624.fr f5 F4.mark (by simp);have z625:=g625.cell (j:=0) (show 0<1 by decide);simp at z625;have A5':=All.trans A4 f5.all;have m5:=Zb5 F4.sg.rogue.lt f5 F4.mark (by simp);have l5:=f5.lim;obtain⟨LN,hLN⟩:∃n,Hid ((f.away++[m]).length=n):=⟨_,rfl⟩;rw[hLN.out]at r5⊢;refine hK.out _ _ ?_;clear hK K
  try simp only[sx]
  refine Zc fun K hK=>?_
  try simp only[sy]
  go_simp;refine hK.out _ _ ?_;clear hK K
  try simp only[sx]
  refine Zc fun K hK=>?_
  try simp only[sy]
  go_simp;refine hK.out _ _ ?_;clear hK K
  try simp only[sx]
  refine Zc fun K hK=>?_
  try simp only[sy]
  refine Sec.wp_store g625 (i:=0) [.slice A5 LN c5] (show 0+1≤1 by decide) rfl rfl rfl (by kernel_rfl) rfl rfl ?_;intro w6 S6 hg6 h6;have F6:=F4.newAway f5 r5 S6 hg6 h6;have k6:=Zaq l5 hg6 m5;have A6:=All.trans A5' k6.all;rw[←hq.out]at F6;clear A5' r5 F4 ra4 rm4 A4;refine hK.out _ _ ?_;clear hK K
  try simp only[sx]
  refine Zah ?_;go_wp2;go_end0;exact⟨rfl,o5,A6,F6⟩
 have kb6:(K==6)=false:=by simpa using k6
 by_cases k10:K=10
 ·have hq0:Hid (QR=f.away.foldl (fun g m=>come g m.dst m) {f with away:=[] }):=by
   show _=_;rw[←hQR.out];unfold doA;rw[if_neg (by rw[hK.out];exact k1),if_neg (by rw[hK.out];exact k45),if_neg (by rw[hK.out];exact k6),if_pos (by rw[hK.out];exact k10)]
  have kb10:(K==10)=true:=by simpa using k10
  clear k45 k1 k6 k10;obtain⟨va,g62,ra⟩:=id F1.away;have z62:=g62.cell (j:=0) (show 0<1 by decide);simp at z62;obtain⟨vaA,vac,hva⟩:=ra.form;subst hva;have Haw:=Lib.hid HM.out.away;have l1':=F1.lim
  go_wp2_with (refine Sec.store g62 (i:=0) [.slice none 0 0] (show 0+1≤1 by decide) rfl rfl rfl rfl (by kernel_rfl) rfl rfl ?_)
  intro w3 S3 hg3 h3;have F3:=F1.putAway S3 hg3 h3 (Row.nil _ _ _ _ _ _);have k3:=Zaq l1' hg3 F1.mark;have A3:=All.trans A1 k3.all;have ra3:=ra.fr RMsgZ.mono k3 (by simp);have T3:=T1.mono k3.view;have hbx:=Za3 hk k3 hx0;obtain⟨G,hG⟩:∃G,Hid (({ f with away:=[] }:Ft)=G):=⟨_,Lib.hid rfl⟩;have hfl:=Lib.hid (Zzm HM.out);rw[hG.out]at F3 hq0 hfl;clear F1 g62 z62 S3 hg3 h3 ra hk T1 A1 hbx k3;obtain⟨l,hl⟩:∃l,Hid (f.away=l):=⟨_,rfl⟩;have hdst:=Lib.hid (fun m hm=>(HM.out.wi.away m hm).2);rw[hl.out]at hq0 hfl Haw hdst ra3;rw[hl.out];clear HM Hsg Hcd Hok Htx Hpk hQR hb c0 c1 c2 c3 hx0
  go_wp2_with fail
  go_loopw [9,108] (fun _ j wr=>∃(k:Nat) (o':Own) (g:Ft),k≤l.length∧j=.int .i64 k∧Hid ((l.take k).foldl (fun g m=>come g m.dst m) G=g)∧Fr All o w o' wr∧FtAt o' wr gf g∧Row o' (5,0) 19 RMsgZ 66 wr (.slice vaA l.length vac) l∧Tabs (Zas o' wr)) (fun _ j _=>l.length-(intOf j).toNat)
  case atStart=>exact⟨0,o,G,Nat.zero_le _,rfl,rfl,A3,F3,ra3,T3⟩
  case round =>
   obtain⟨k,o1,g,hk1,rfl,hg,A1,F1,rou1,T1⟩:=hrel
   by_cases hlt:k<l.length
   ·have hltI:(k:Int)<l.length:=by omega
    have Hlt:=Lib.hid hlt;have hrd:=rou1.ownSl.reads (bs:=264) (fun _ _ _ _ hx _=>hx) (by have:=Haw.out;omega);obtain⟨A9,c9,he9,-,-,-,-,h59⟩:=hrd;injection he9 with he1 _ he3;subst he1 he3;obtain⟨bb,bo,hA,hcc⟩:=h59 (by omega);subst hA;obtain⟨cs9,-,hcell,⟨vt,vb,vp,vd,cb,cp,cv,rfl,rm⟩,hts⟩:=hcc k hlt;have hst:=Lib.hid (show(l.take (k+1)).foldl (fun g m=>come g m.dst m) G=come g (l[k]).dst l[k] by rw[List.take_succ_eq_append_getElem hlt,List.foldl_append,hg.out];rfl);have hds:=Lib.hid (hdst.out l[k] (List.getElem_mem hlt));have HG:Hid (MI g):=by show MI g;rw[←hg.out];exact hfl.out k
    generalize l[k]=m at *;have rm0:=rm;obtain⟨⟨tA,tc,rfl⟩,⟨bA,bc,rfl⟩,⟨pA,pc,rfl⟩,⟨dA',dc',rfl⟩,⟨cA,cc,rfl⟩,⟨qA,qc,rfl⟩,⟨vA,vc,rfl⟩⟩:=rm0.forms;clear rm0 h59 hcc
    have hcs:∀j v,(#[.int .i64 m.src,.int .i64 m.dst,.int .i64 m.kind,.int .i64 m.bat.author,.int .i64 m.bat.number,.slice tA m.bat.txs.length tc,.int .i64 m.hdr.author,.int .i64 m.hdr.round,.slice bA m.hdr.batches.length bc,.slice pA m.hdr.parents.length pc,.int .i64 m.slt.author,.int .i64 m.slt.round,.slice dA' m.slt.digest.length dc',.int .i64 m.crt.hdr.author,.int .i64 m.crt.hdr.round,.slice cA m.crt.hdr.batches.length cc,.slice qA m.crt.hdr.parents.length qc,.slice vA m.crt.voters.length vc,.int .i64 m.round]:Array Value).toList[j]?=some v→wr.cell? ((⟨bb,bo+k*19,none⟩:Addr).add j)=some v:=fun j v hj=>by
     have hj':j<19:=(List.getElem?_eq_some_iff.1 hj).1;rw[Zbs];exact(hcell j hj').trans hj
    clear hcell;have hn:=Blk.new wr 66 #[.int .i64 0,.int .i64 0,.int .i64 0,.int .i64 0,.int .i64 0,.slice none 0 0,.int .i64 0,.int .i64 0,.slice none 0 0,.slice none 0 0,.int .i64 0,.int .i64 0,.slice none 0 0,.int .i64 0,.int .i64 0,.slice none 0 0,.slice none 0 0,.slice none 0 0,.int .i64 0];have hb0:=Zac wr (.cells #[.int .i64 0,.int .i64 0,.int .i64 0,.int .i64 0,.int .i64 0,.slice none 0 0,.int .i64 0,.int .i64 0,.slice none 0 0,.slice none 0 0,.int .i64 0,.int .i64 0,.slice none 0 0,.int .i64 0,.int .i64 0,.slice none 0 0,.slice none 0 0,.slice none 0 0,.int .i64 0] 66)
    go_wp2_with (first|(refine Zbd (n:=19) (#[.int .i64 m.src,.int .i64 m.dst,.int .i64 m.kind,.int .i64 m.bat.author,.int .i64 m.bat.number,.slice tA m.bat.txs.length tc,.int .i64 m.hdr.author,.int .i64 m.hdr.round,.slice bA m.hdr.batches.length bc,.slice pA m.hdr.parents.length pc,.int .i64 m.slt.author,.int .i64 m.slt.round,.slice dA' m.slt.digest.length dc',.int .i64 m.crt.hdr.author,.int .i64 m.crt.hdr.round,.slice cA m.crt.hdr.batches.length cc,.slice qA m.crt.hdr.parents.length qc,.slice vA m.crt.voters.length vc,.int .i64 m.round]:Array Value).toList rfl rfl rfl rfl (by kernel_rfl) (by kernel_rfl) (by kernel_rfl) hcs ?_)|(refine Zj 19 hn ?_))
    intro W2 hX hgX;have hbX:Below wr.heap.size wr W2:=Zab hb0 hb0.size hgX (by intro k e;injection e;omega);clear hn hb0 hgX;have l1:=F1.lim;have F2':=F1.below hbX;have A2':=All.trans A1 (Fr.of_below (T:=All) l1 hbX);have v2:=Zae l1 hbX;have rm2:=rm.mono v2;have T2':=T1.mono v2;have rou2:=rou1.fr RMsgZ.mono (Fr.of_below (T:=fun _=>False) l1 hbX) (fun h=>h);obtain⟨g2,hg2⟩:∃g2,Hid (come g m.dst m=g2):=⟨_,rfl⟩;have hc:=Zle gf g m.dst m _ _ _ _ _ _ _ o1 W2 F2' T2' HG.out hds.out rm2 hts;rw[hg2.out]at hc hst;have d1:=hX.cell 1;simp at d1;clear hcs A1 F1 rou1 T1 rm F2' rm2 hg hg2
    go_wp2_with (refine wpList_load_row rfl 66 _ rfl _ rfl _ _ _ _ hX Tryz.underlying66 rfl (by kernel_rfl) ?_)
    refine hc.mono ?_;rintro e w5 ⟨rfl,o5,⟨i5,hi5,K5⟩,F5⟩;have A5:=All.trans A2' K5.fr.all;have T5:=T2'.mono K5.fr.view;have rou5:=rou2.fr RMsgZ.mono K5.fr (by simp;omega);clear hX hc d1 rou2 T2' A2' K5;have hlt4:(k:Int)<400:=by have:=Hlt.out;have:=Haw.out;omega
    go_wp2;go_roundw
    case rel=>have:=Hlt.out;have:=Haw.out;exact⟨k+1,o5,g2,Hlt.out,by go_num,hst,A5,F5,rou5,T5⟩
    case measure=>have:=Hlt.out;have:=Haw.out;simp[intOf]<;>omega
   ·have hkl:k=l.length:=by omega
    have hpp:Hid (QR=g):=by
     show _=_;rw[hq0.out,←hg.out,hkl,List.take_length]
    have hltI:¬(k:Int)<l.length:=by omega
    rw[←hpp.out]at F1;clear hkl hg hpp;go_wp2;go_end0;exact⟨rfl,o1,A1,F1⟩
 have kb10:(K==10)=false:=by simpa using k10
 by_cases k9:K=9
 ·have hq0:Hid (QR=if decE (Zca a.text)=0∧0≤f.rogue then come f i (decM (Zca a.text))else f):=by
   show _=_;rw[←hQR.out];unfold doA;rw[if_neg (by rw[hK.out];exact k1),if_neg (by rw[hK.out];exact k45),if_neg (by rw[hK.out];exact k6),if_neg (by rw[hK.out];exact k10),if_pos (by rw[hK.out];exact k9),Hi.out]
  have kb9:(K==9)=true:=by simpa using k9
  have htz:a.text.size≤140737488355328:=Nat.le_trans (Htx.out (by rw[hK.out,k9];rfl)) (by decide);clear k45 k1 k6 k10 k9
  go_wp2_with (refine Zg2 _ Tryz.underlying9 Tryz.underlying54 Tryz.underlying5 rfl _ rfl rfl htz ?_)
  intro vb w2 rb hb2;have F2:=F1.below hb2;have l2:=F2.lim;have T2:=T1.mono (Zae l1 hb2);have A2:=All.trans A1 (Fr.of_below (T:=All) l1 hb2);have hk2:=hk.kept hb2;clear F1 T1 A1 hk hb2;obtain⟨m,hm⟩:∃m,Hid (decM (Zca a.text)=m):=⟨_,rfl⟩;obtain⟨E,hE⟩:∃E,Hid (decE (Zca a.text)=E):=⟨_,rfl⟩;have hdec:=Zi8 vb (Zca a.text) w2 rb;have hs2:=Lib.hid (decM_small (Zca a.text));rw[hm.out]at hdec hq0 hs2;rw[hE.out]at hdec hq0;obtain⟨_,r0,_⟩:=id F2.sg;have z0:=r0.cell (j:=0) (show 0<1 by decide);simp at z0;obtain⟨rg,hrg⟩:∃rg,Hid (f.rogue=rg):=⟨_,rfl⟩;rw[hrg.out]at hq0 z0;clear hQR r0
  go_wp2_with fail
  refine hdec.mono ?_;rintro e w3 ⟨vt,vb,vp,vd,cb,cp,cv,rfl,hb3,rm3⟩;have F3:=F2.below hb3;have T3:=T2.mono (Zae l2 hb3);have A3:=All.trans A2 (Fr.of_below (T:=All) l2 hb3);have z3:=Zaa hb3 _ _ z0;have hk3:=hk2.kept hb3;have l3:=F3.lim;have rm0:=rm3;obtain⟨⟨tA,tc,rfl⟩,⟨bA,bc,rfl⟩,⟨pA,pc,rfl⟩,⟨dA',dc',rfl⟩,⟨cA,cc,rfl⟩,⟨qA,qc,rfl⟩,⟨eA,ec,rfl⟩⟩:=rm0.forms;have rm3':=rm3.mono (Zby l2);clear rm0 rm3 z0 hk2 hdec F2 T2 A2;unfold msgC;have hn5:=Blk.new w3 66 #[.int .i64 0,.int .i64 0,.int .i64 0,.int .i64 0,.int .i64 0,.slice none 0 0,.int .i64 0,.int .i64 0,.slice none 0 0,.slice none 0 0,.int .i64 0,.int .i64 0,.slice none 0 0,.int .i64 0,.int .i64 0,.slice none 0 0,.slice none 0 0,.slice none 0 0,.int .i64 0];have hb5:=Zac w3 (.cells #[.int .i64 0,.int .i64 0,.int .i64 0,.int .i64 0,.int .i64 0,.slice none 0 0,.int .i64 0,.int .i64 0,.slice none 0 0,.slice none 0 0,.int .i64 0,.int .i64 0,.slice none 0 0,.int .i64 0,.int .i64 0,.slice none 0 0,.slice none 0 0,.slice none 0 0,.int .i64 0] 66)
  go_wp2_with (refine Zj 19 hn5 ?_)
  intro w4 hX hgX;have hbX:Below w3.heap.size w3 w4:=Zab hb5 hb5.size hgX (by intro k e;injection e;omega);have F4:=F3.below hbX;have A4:=All.trans A3 (Fr.of_below (T:=All) l3 hbX);have T4:=T3.mono (Zae l3 hbX);have rm4:=rm3'.mono (Zae l3 hbX);have z4:=Zaa hbX _ _ z3;have hk4:=hk3.kept hbX;have d1:=hk4.cell 1;simp at d1;clear hn5 hb5 hgX F3 rm3' T3 z3 hk3 hbX
  by_cases e0:E=0
  ·have eb:(E==0)=true:=by simpa using e0
   by_cases r0:0≤rg
   ·have hq:Hid (QR=come f i m):=by show _=_;rw[hq0.out,if_pos ⟨e0,r0⟩]
    have hc:=Zle gf f i m _ _ _ _ _ _ _ o w4 F4 T4 HM.out ⟨hi0,by omega⟩ rm4 hs2.out;rw[←hq.out]at hc;clear hq0 hq e0 F4 T4 rm4
    go_wp2_with (refine wpList_load_row rfl 66 _ rfl _ rfl _ _ _ _ hX Tryz.underlying66 rfl (by kernel_rfl) ?_)
    refine hc.mono ?_;rintro e w5 ⟨rfl,o5,⟨i5,_,K5⟩,F5⟩;clear hX hc;go_wp2;go_end0;exact⟨rfl,o5,All.trans A4 K5.fr.all,F5⟩
   ·have hq:Hid (QR=f):=by show _=_;rw[hq0.out,if_neg (fun h=>r0 h.2)]
    rw[←hq.out]at F4;clear hq0 hq e0 T4 rm4 hX;go_wp2;go_end0;exact⟨rfl,o,A4,F4⟩
  ·have eb:(E==0)=false:=by simpa using e0
   have hq:Hid (QR=f):=by show _=_;rw[hq0.out,if_neg (fun h=>e0 h.1)]
   rw[←hq.out]at F4;clear hq0 hq e0 T4 rm4 hX;go_wp2;go_end0;exact⟨rfl,o,A4,F4⟩
 have kb9:(K==9)=false:=by simpa using k9
 have hq0:Hid (QR=if (i:Int)≠f.rogue then act f a else f):=by
  show _=_;rw[←hQR.out];unfold doA;rw[if_neg (by rw[hK.out];exact k1),if_neg (by rw[hK.out];exact k45),if_neg (by rw[hK.out];exact k6),if_neg (by rw[hK.out];exact k10),if_neg (by rw[hK.out];exact k9),Hi.out]
 clear k45 k1 k6 k10 k9
 go_upto_region 2 with fail
 obtain⟨_,r0,_⟩:=id F1.sg;have z0:=r0.cell (j:=0) (show 0<1 by decide);simp at z0;obtain⟨rg,hrg⟩:∃rg,Hid (f.rogue=rg):=⟨_,rfl⟩;rw[hrg.out]at hq0 z0;refine Zt (fun w'=>Below W.heap.size W w') (fun w'=>Below W.heap.size W w') [] (.q 0 (.q 1 (.q 2 (.q 3 (.q 4 (.q 5 (.q 6 .nil))))))) ?_ ?_
 ·exact⟨Zad _,Zad _⟩
 intro W2 hS0 hS
 repeat((first|refine pq (h:=⟨_,fun w' hS=>by(have h0:=Zaa hS _ _ z0;have h1:=Zaa hS _ _ c1;go_simp;exact rfl),?_⟩)|refine Zq ?_);simp only[sx])
 refine Zah ?_;have F2:=F1.below hS;have T2:=T1.mono (Zae l1 hS);have A2:=All.trans A1 (Fr.of_below (T:=All) l1 hS);have hk2:=hk.kept hS
 by_cases hr:(i:Int)=rg
 ·have hq:Hid (QR=f):=by show _=_;rw[hq0.out,if_neg (by simpa using hr)]
  rw[←hq.out]at F2;have hrb:((i:Int)==rg)=true:=by simpa using hr
  clear hr hq0 r0 z0 hrg;go_wp2;go_end0;exact⟨rfl,o,A2,F2⟩
 ·have hq:Hid (QR=act f a):=by show _=_;rw[hq0.out,if_pos hr]
  have hrb:((i:Int)==rg)=false:=by simpa using hr
  have hac:=Zz9 gf f a o W2 F2 T2 HM.out Hok.out Hpk.out (by rw[Hi.out,hrg.out];exact hr) Hsg.out;rw[Hi.out,hK.out,hPP.out,←hq.out]at hac;clear hq0 r0 z0 hr F2
  go_wp2_with (refine wpList_load_row rfl 58 _ rfl _ rfl _ _ _ _ hk2 Tryz.underlying58 rfl (by kernel_rfl) ?_)
  refine hac.mono ?_;rintro e w3 ⟨rfl,o3,A3,F3⟩;go_wp2;go_end0;exact⟨rfl,o3,All.trans A2 A3,F3⟩
theorem Zll(v:Value)(l:List (List UInt8))(w:World)(hr:RDigs w.cell? v l) :
 Calls Tryz.prog 89 #[v] w fun e w'=>∃v',e=.returned v'∧Below w.heap.size w w'∧RDigs (View.from w'.cell? w.heap.size) v' l:=by
 have hlen:l.length*24≤140737488355328:=by obtain⟨A,c,_,_,_,h,_⟩:=hr;exact h
 obtain⟨A,c,rfl,hf⟩:=id hr;clear hf;obtain⟨_,_,_,hel⟩:=hr.at;have Hel:=Lib.hid hel;clear hel;have Hlen:=Lib.hid hlen
 go_enter Tryz.func89,Tryz.ntmps89
 go_wp2_with fail
 go_loopw [3,5,8] (fun u _ i wr=>∃k:Nat,k≤l.length∧i=.int .i64 k∧OwnSl 1 (RFrom w.heap.size RDig) 54 wr w.heap.size u (l.take k)∧Below w.heap.size w wr) (fun _ _ i _=>l.length-(intOf i).toNat)
 case atStart=>exact⟨0,Nat.zero_le _,rfl,OwnSl.nil _ _ _ _ _,Below.refl _ _⟩
 case round =>
  obtain⟨k,hk,rfl,hown,hbl⟩:=hrel;have hbs:=hbl.size
  by_cases hlt:k<l.length
  ·obtain⟨b0,o0,vd,rfl,q0,rdk⟩:=Hel.out k hlt;have c0:=Zaa hbl _ _ q0;have rd':=rdk.mono (Zaa hbl);have Hn:=Lib.hid (List.take_succ_eq_append_getElem hlt);have Hlk:=Lib.hid (show(l.take k).length=k by simp;omega);have hdl:=Lib.hid (show l[k].length*1≤140737488355328 from rdk.len);obtain⟨E1A,E1c,rfl,hg1⟩:=id rdk;clear q0 rdk hg1;generalize l.take k=L at hown Hn Hlk;generalize l[k]=y at *;have hlto:=hown.lt;obtain⟨nA,nc,rfl⟩:=hown.form;have hltI:(k:Int)<l.length:=by omega
   have hltB:(k:Int)<140737488355328:=by omega
   clear hlen
   go_wp2_with fail
   refine(Zci _ y _ rd').mono ?_;rintro e w4 ⟨td,rfl,hb4,o4⟩;have hown4:=hown.kept (RFrom.mono RDig.mono) hb4;have hz4:=hb4.size
   have rR:RFrom w.heap.size RDig (View.but w4.cell? (Value.slice nA L.length nc).ownBlock) [td] y :=
    ⟨_,rfl,o4.reads_from hdl.out (by omega) (fun g hg=>by have:=(hlto g hg).2;omega)⟩
   obtain⟨A1,c1',rfl⟩:=o4.form;clear o4 hown
   go_wp2_with (refine Za2 (n:=140737488355328) (RFrom.mono RDig.mono) y [.slice A1 y.length c1'] Zez _ _ rfl rfl rfl hown4 (W:=w4) (Below.refl _ _) (by omega) rfl rfl rfl rfl rR (Nat.le_refl _) (by rw[Hlk.out];have:=Hlen.out;omega) (by rw[Hlk.out];have:=Hlen.out;omega) (fun v2 w6 ho6 hb6 hg6=>?_))
   rw[←Hn.out]at ho6;have hbl6:Below w.heap.size w w6:=Zab (hbl.trans (hb4.mono hbs)) (by omega) hg6 (fun q hq=>by have:=(hlto q hq).1;omega);obtain⟨A6,c6,rfl⟩:=ho6.form;clear hown4 rR hb4 hg6 hb6 c0 rd';go_wp2;go_roundw
   case rel=>exact⟨k+1,by omega,by go_num,ho6,hbl6⟩
   case measure=>simp[intOf];omega
  ·have hkl:k=l.length:=by omega
   rw[hkl,List.take_length]at hown;obtain⟨nA,nc,rfl⟩:=hown.form;have hltI:¬(k:Int)<l.length:=by omega
   clear Hel hkl;go_wp2;go_ret;exact⟨_,rfl,hbl,hown.reads_from RDig.mono Hlen.out⟩
end Fl
def RBut(B:Nat)(R:View→List Value→α→Prop):View→List Value→α→Prop:=fun h cs x=>R (View.but h (some B)) cs x
theorem Zyd{h':View}{g:Option Nat}(hle:VLe h h'):VLe (View.but h g) (View.but h' g):=fun a v e=>by
 unfold View.but at e⊢
 split at e
 ·cases e
 ·rename_i hne
  rw[if_neg hne]
  exact hle _ _ e
theorem RBut.mono{B:Nat}(hR:Mono R):Mono (RBut B R):=fun h h' cs x hr hle=>hR _ _ _ _ hr (Zyd hle)
theorem OwnSl.toBut(hR:Mono R)(h:OwnSl sz R e w b v xs):OwnSl sz (RBut w.heap.size R) e w b v xs:=by
 obtain⟨css,h1,h2,h3⟩:=h.own;refine⟨css,h1,h2,fun i hi=>?_⟩;obtain⟨cs,q1,q2,q3⟩:=h3 i hi;refine⟨cs,q1,q2,hR _ _ _ _ q3 fun a u hu=>?_⟩;have hlt:=World.block_lt_of_cell? w a (View.but_le _ _ _ _ hu);unfold View.but;rw[if_neg (by intro e;injection e with e;omega)];exact hu
theorem OwnSl.ofBut{B:Nat}(hR:Mono R)(h:OwnSl sz (RBut B R) e w b v xs):OwnSl sz R e w b v xs:=by
 obtain⟨css,h1,h2,h3⟩:=h.own;refine⟨css,h1,h2,fun i hi=>?_⟩;obtain⟨cs,q1,q2,q3⟩:=h3 i hi;exact⟨cs,q1,q2,hR _ _ _ _ q3 (View.but_le _ _)⟩
theorem OwnSl.butGrown{B:Nat}(hR:Mono R)(h:OwnSl sz (RBut B R) e w b v xs)(hg:w.grownBy w' (some B))(hne:v.ownBlock≠some B):OwnSl sz (RBut B R) e w' b v xs:=by
 obtain⟨css,h1,h2,h3⟩:=h.own;refine⟨css,h1.kept hg (.inr hne),h2,fun i hi=>?_⟩;obtain⟨cs,q1,q2,q3⟩:=h3 i hi;refine⟨cs,q1,q2,hR _ _ _ _ q3 fun a u hu=>?_⟩;unfold View.but at hu⊢;split at hu
 ·cases hu
 ·rename_i hn1;rw[if_neg hn1];split at hu
  ·cases hu
  ·rename_i hn2;rw[if_neg hn2];exact hg.cell hu hn1
end Go.Proofs.YtinibgklgehdpaaGreatDoor
