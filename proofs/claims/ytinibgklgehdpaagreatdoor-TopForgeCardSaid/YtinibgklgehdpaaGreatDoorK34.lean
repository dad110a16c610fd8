/- A part of what the last text stands on. -/
import Derived.Test.YtinibgklgehdpaaGreatDoorK16
import Derived.Test.YtinibgklgehdpaaGreatDoorK33
namespace Go.Proofs.YtinibgklgehdpaaGreatDoor
open Go.ChangeShapes Go.WideShapes Go.ChangeAt Go.RowKit Qa Qb Qc
set_option linter.all false
set_option maxHeartbeats 20000000
set_option maxRecDepth 100000
variable{P:Program}{w:World}{o:Oper}
theorem Zoy(a:Int)(v:Value)(d:List UInt8)(w:World)(hv:Zao w.cell? v d) :
 Calls Tryz.prog 163 #[.agg #[v,.int .i64 a]] w fun e w'=>∃vm vd,e=.returned (.tuple #[vm,.agg #[vd,.int .i64 (rcvY d a)],.int .i64 (rcvE d a)])∧Below w.heap.size w w'∧RMsgs (View.from w'.cell? w.heap.size) vm (rcvM d a)∧Zao (View.from w'.cell? w.heap.size) vd (rcvD d a):=by
 have hl:d.length*1≤140737488355328:=hv.len;obtain⟨A0,c0,rfl,hf⟩:=id hv;clear hf;cases hm:Zba d a
 ·have hY:rcvY d a=0:=by unfold rcvY;rw[hm];rfl
  have hE:rcvE d a=12:=by unfold rcvE;rw[hm];rfl
  have hM:rcvM d a=[]:=by unfold rcvM;rw[hm];rfl
  have hD:rcvD d a=[]:=by unfold rcvD;rw[hm];rfl
  rw[hY,hE,hM,hD];have Hm:=Lib.hid hm;clear hY hE hM hD hm
  go_enter Tryz.func163,Tryz.ntmps163
  go_upto_region 1 with fail
  refine Za6 _ _ _ _ _ (fun W=>Code.wp _ _ _ _ W) (fun W hk1 hk2 hszW hbW=>?_);have g0:=hk1.cell 0;have g1:=hk1.cell 1;simp at g0 g1;have hzW:=hbW.size
  go_wp2_with fail
  refine(Zu0 a A0 c0 d W (by omega) Hm.out).mono ?_;rintro e w1 ⟨rfl,hb1⟩;have hk3:=hk2.kept hb1;have hbl1:=hbW.trans (hb1.mono hzW);clear g0 g1 hk1 hk2
  go_upto_region 2 with fail
  refine Zo fun W2 hX hsX hbX=>?_
  have hk4:=hk3.kept hbX;have hbl2:=hbl1.trans (hbX.mono hbl1.size)
  go_wp2_with (refine Zj 2 hk4 ?_)
  intro w3 hB3 hg3;go_wp2;refine bodyPost_ret (Zkr rfl rfl (by kernel_rfl) (by kernel_rfl) hB3 rfl) rfl ?_;exact⟨.slice none 0 0,.slice none 0 0,rfl,Zab hbl2 hbl2.size hg3 (by intro k e;injection e;omega),RMsgs.nil _,RVec.nil _ _ _⟩
 have Hm:=Lib.hid hm;have hd4:d.length≤400000∧0≤a∧a≤d.length:=by simp[Zba]at hm;omega
 obtain⟨hd4,ha0,had⟩:=hd4;obtain⟨R,hR⟩:∃R,Hid (rcvP d=R):=⟨_,rfl⟩;obtain⟨Y,hY⟩:∃Y,Hid (rcvY d a=Y):=⟨_,rfl⟩;have HY:Hid (Y=if a≤(R.2:Int)then a else(R.2:Int)):=by show _=_;rw[←hY.out];unfold rcvY;rw[hm,hR.out];rfl
 have hE:rcvE d a=0:=by unfold rcvE;rw[hm];rfl
 have hM:rcvM d a=R.1:=by unfold rcvM;rw[hm,hR.out];rfl
 have hD:rcvD d a=d.take R.2:=by unfold rcvD;rw[hm,hR.out];rfl
 rw[hY.out,hE,hM,hD];have HR:Hid (rcvR d (d.length+1) [] 0=R):=hR.out;clear hE hM hD hm hY hR
 go_enter Tryz.func163,Tryz.ntmps163
 go_upto_region 1 with fail
 refine Za6 _ _ _ _ _ (fun W=>Code.wp _ _ _ _ W) (fun W hk1 hk2 hszW hbW=>?_);have g0:=hk1.cell 0;have g1:=hk1.cell 1;simp at g0 g1;have hzW:=hbW.size;have hzW2:w.heap.size+2≤W.heap.size:=by omega
 clear hszW
 go_wp2_with fail
 refine(Zh6 a _ d W (hv.mono (Zaa hbW)) Hm.out).mono ?_;rintro e w1 ⟨dv,rfl,hb1,o1⟩;have r1:=o1.reads (bs:=1) hl;have rF:=o1.from_ (bs:=1) (b0:=w.heap.size+2) hl (by omega);obtain⟨A,c,rfl⟩:=o1.form;have hk3:=hk2.kept hb1;have hbl1:=hbW.trans (hb1.mono hzW);have hz1:=hb1.size;clear g0 g1 hk1 hk2 o1
 go_upto_region 2 with fail
 refine Zo fun W2 hX hsX hbX=>?_
 have hk4:=hk3.kept hbX;have hbl2:=hbl1.trans (hbX.mono hbl1.size);have r2:=r1.mono (Zaa hbX);have hzX:w1.heap.size+1≤W2.heap.size:=by omega
 clear hsX hk3 r1
 obtain⟨_,hdc,_,_,_,hel⟩:d.length=d.length∧d.length≤c∧True∧True∧True∧(∀i (hi:i<d.length),∃b o,A=some ⟨b,o,none⟩∧W2.cell? ⟨b,o+i,none⟩=some (.int .u8 d[i].toNat)):=by
  obtain⟨A',c',e,h1,_,_,_,h5⟩:=id r2;injection e with e1 e2 e3;subst e1 e3;refine⟨rfl,h1,trivial,trivial,trivial,fun i hi=>?_⟩;obtain⟨b,o,ea,hc⟩:=h5 (by omega);exact⟨b,o,ea,hc i hi⟩
 have Hel:=Lib.hid hel;clear hel
 go_upto_block 0 with fail
 go_cut [7,8,9,10,11] (fun v i _ _ _ w'=>∃(at_:Nat) (ms:List Msg),i=.int .i64 at_∧Hid (R=(ms,at_))∧at_≤d.length∧RMsgs (View.from w'.cell? W2.heap.size) v ms∧Below W2.heap.size W2 w')
 case first =>
  go_wp2_with fail
  go_loopw [7,8,9,10,11] (fun v i _ _ _ wr=>∃(k at_:Nat) (ms:List Msg),i=.int .i64 at_∧at_≤d.length∧Hid (rcvR d k ms at_=R∧d.length<k+at_)∧ms.length≤at_∧OwnMsgs W2.heap.size wr W2.heap.size v ms∧Below W2.heap.size W2 wr) (fun _ i _ _ _ _=>d.length-(intOf i).toNat)
  case atStart=>exact⟨d.length+1,0,[],rfl,Nat.zero_le _,⟨HR.out,by omega⟩,Nat.zero_le _,OwnSl.nil _ _ _ _ _,Below.refl _ _⟩
  case round =>
   obtain⟨k,at_,ms,rfl,hat,hrun,hml,hown,hbl⟩:=hrel;have hXr:=hX.kept hbl;have x0:=hXr.cell 0;have x1:=hXr.cell 1;simp at x0 x1;have hzr:=hbl.size
   by_cases h2:at_+2≤d.length
   ·have h2':(at_:Int)+2≤d.length:=by omega
    obtain⟨b0,o0,rfl,e0⟩:=Hel.out at_ (by omega);obtain⟨b1,o1,eA,e1⟩:=Hel.out (at_+1) (by omega);injection eA with eA;injection eA with eb eo _;subst eb eo;have c0':=Zaa hbl _ _ e0;have c1':=Zaa hbl _ _ e1;have hN:=Lib.hid (Zzb (d:=d) (a:=at_) (by omega));have hx0:=d[at_].toNat_lt;have hx1:=d[at_+1].toNat_lt;have hor:=Zyr (v:=d[at_].toNat) (x:=d[at_+1].toNat) (by omega) hx1;generalize d[at_].toNat=B0 at *;generalize d[at_+1].toNat=B1 at *;clear e0 e1
    go_wp2_with fail
    refine Zr [15] (.q 0 (.q 1 (.q 2 (.q 3 (.q 4 (.q 5 (.q 6 (.q 7 (.q 8 (.q 9 (.q 10 (.q 11 (.q 12 (.q 13 (.q 14 (.qc 15 .nil)))))))))))))))) fun W3 hS=>?_
    have hi1:(at_:Int)<d.length:=by omega
    have hi2:(at_:Int)+1<d.length:=by omega
    have hw1:IntKind.i64.wrap ((at_:Int)+1)=((at_+1:Nat):Int):=by rw[IntKind.wrap_i64];omega
    repeat((first|refine pq (h:=⟨_,fun w' hS=>by(have hq:=hXr.kept hS;have h0:=hq.cell 0;have h1:=hq.cell 1;simp at h0 h1;have hc0:=Zaa hS _ _ c0';have hc1:=Zaa hS _ _ c1';go_simp;exact rfl),?_⟩)|refine Zq ?_);simp only[sx])
    have hwB0:IntKind.i64.wrap (B0:Int)=B0:=by rw[IntKind.wrap_i64];omega
    have hwB1:IntKind.i64.wrap (B1:Int)=B1:=by rw[IntKind.wrap_i64];omega
    have hwB2:IntKind.i64.wrap ((B0:Int)*256)=(B0:Int)*256:=by rw[IntKind.wrap_i64];omega
    simp only[hwB0,hwB1,hwB2,hor];obtain⟨N,hNN⟩:∃N,Hid (recN d at_=N):=⟨_,rfl⟩;rw[show B0*256+B1=N by rw[←hNN.out];exact hN.out.symm];have hN65:N<65536:=by rw[←hNN.out,hN.out];omega
    refine Zah ?_;have hbl3:=hbl.trans (hS.mono hzr);have hXr3:=hXr.kept hS;have hown3:=hown.kept (RFrom.mono RMsgR.mono) hS;have r3:=r2.mono (Zaa hbl3);have hz3:=hS.size;clear hN hwB0 hwB1 hwB2 hor c0' c1' x0 x1 hXr hown hbl hS hi1 hi2 hw1 hx0 hx1;have x0:=hXr3.cell 0;have x1:=hXr3.cell 1;simp at x0 x1
    by_cases hlen:at_+2+N≤d.length
    ·obtain⟨a2,ha2⟩:∃a2,Hid (at_+2=a2):=⟨_,rfl⟩;obtain⟨a3,ha3⟩:∃a3,Hid (a2+N=a3):=⟨_,rfl⟩;have h2a:=ha2.out;have h3a:=ha3.out;have hs1:(at_:Int)+2=a2:=by omega
     have hs2:(a2:Int)+N=a3:=by omega
     have hle:¬(d.length:Int)<a3:=by omega
     have hcc:a2≤a3∧a3≤c∧a3-a2=N:=by omega
     have hc1:(a2:Int)≤(a3:Int):=by omega
     have hc2:(a3:Int)≤(c:Int):=by omega
     obtain⟨BB,hBB⟩:∃BB,Hid (recB d at_=BB):=⟨_,rfl⟩;have hbody:=bodyOf r3 (a:=at_) (by rw[hNN.out];exact hlen);rw[hNN.out,hBB.out,ha2.out]at hbody;clear h2a h3a;obtain⟨M,hM⟩:∃M,Hid (decM BB=M):=⟨_,rfl⟩;obtain⟨E,hE⟩:∃E,Hid (decE BB=E):=⟨_,rfl⟩;obtain⟨F,hF⟩:∃F,Hid (recF M=F):=⟨_,rfl⟩
     have hgood:Hid (Zfn d at_=(decide (E=0)&&decide (F=0))):=by
      show _=_;unfold Zfn;rw[hBB.out,hM.out,hE.out,hF.out,hNN.out,decide_eq_true h2,decide_eq_true hlen];rfl
     have hsm:=Lib.hid (decM_small BB);rw[hM.out]at hsm
     go_upto_region 9 with fail
     go_cut [10,11] (fun p e w'=>∃gb vt vb vp vd cb cp cv,p=.pointer (some ⟨gb,0,none⟩)∧e=.int .i64 E∧Blk w' gb 66 (msgC M vt vb vp vd cb cp cv)∧RMsg (View.from w'.cell? W3.heap.size) M vt vb vp vd cb cp cv∧Below W3.heap.size W3 w')
     case first =>
      have Hb:=Lib.hid hbody;clear hbody hown3 hsm hF hgood HR HY
      by_cases hca:c=a2
      ·have hbody:=Hb.out;rw[if_pos hca]at hbody;clear Hb;subst hca;rw[Nat.sub_self]at hbody
       go_wp2_with fail
       refine(Zi8 _ BB W3 hbody).mono ?_;rintro e w4 ⟨vt,vb,vp,vd,cb,cp,cv,rfl,hb4,rm⟩;rw[hM.out]at rm⊢;rw[hE.out];obtain⟨⟨tA,tc,rfl⟩,⟨bA,bc,rfl⟩,⟨pA,pc,rfl⟩,⟨dA,dc,rfl⟩,⟨cA,cc,rfl⟩,⟨qA,qc,rfl⟩,⟨vA,vc,rfl⟩⟩:=rm.forms;unfold msgC;have hn:=Blk.new w4 66 #[.int .i64 0,.int .i64 0,.int .i64 0,.int .i64 0,.int .i64 0,.slice none 0 0,.int .i64 0,.int .i64 0,.slice none 0 0,.slice none 0 0,.int .i64 0,.int .i64 0,.slice none 0 0,.int .i64 0,.int .i64 0,.slice none 0 0,.slice none 0 0,.slice none 0 0,.int .i64 0];have hbn:=Zac w4 (.cells #[.int .i64 0,.int .i64 0,.int .i64 0,.int .i64 0,.int .i64 0,.slice none 0 0,.int .i64 0,.int .i64 0,.slice none 0 0,.slice none 0 0,.int .i64 0,.int .i64 0,.slice none 0 0,.int .i64 0,.int .i64 0,.slice none 0 0,.slice none 0 0,.slice none 0 0,.int .i64 0] 66)
       go_wp2_with (refine Zj 19 hn ?_)
       intro w5 hX5 hg5;have hbX5:=Zab hbn hbn.size hg5 (by intro k e;injection e;omega);go_wp2;go_meet;exact⟨_,_,_,_,_,_,_,_,rfl,rfl,hX5,rm.mono (Za0 _ (Zaa hbX5)),hb4.trans (hbX5.mono hb4.size)⟩
      ·have hbody:=Hb.out;rw[if_neg hca]at hbody;clear Hb;replace hbody:Zao W3.cell? (.slice (some ⟨b0,o0+a2,none⟩) N (c-a2)) BB:=by simpa[Zbs]using hbody
       go_wp2_with fail
       refine(Zi8 _ BB W3 hbody).mono ?_;rintro e w4 ⟨vt,vb,vp,vd,cb,cp,cv,rfl,hb4,rm⟩;rw[hM.out]at rm⊢;rw[hE.out];obtain⟨⟨tA,tc,rfl⟩,⟨bA,bc,rfl⟩,⟨pA,pc,rfl⟩,⟨dA,dc,rfl⟩,⟨cA,cc,rfl⟩,⟨qA,qc,rfl⟩,⟨vA,vc,rfl⟩⟩:=rm.forms;unfold msgC;have hn:=Blk.new w4 66 #[.int .i64 0,.int .i64 0,.int .i64 0,.int .i64 0,.int .i64 0,.slice none 0 0,.int .i64 0,.int .i64 0,.slice none 0 0,.slice none 0 0,.int .i64 0,.int .i64 0,.slice none 0 0,.int .i64 0,.int .i64 0,.slice none 0 0,.slice none 0 0,.slice none 0 0,.int .i64 0];have hbn:=Zac w4 (.cells #[.int .i64 0,.int .i64 0,.int .i64 0,.int .i64 0,.int .i64 0,.slice none 0 0,.int .i64 0,.int .i64 0,.slice none 0 0,.slice none 0 0,.int .i64 0,.int .i64 0,.slice none 0 0,.int .i64 0,.int .i64 0,.slice none 0 0,.slice none 0 0,.slice none 0 0,.int .i64 0] 66)
       go_wp2_with (refine Zj 19 hn ?_)
       intro w5 hX5 hg5;have hbX5:=Zab hbn hbn.size hg5 (by intro k e;injection e;omega);go_wp2;go_meet;exact⟨_,_,_,_,_,_,_,_,rfl,rfl,hX5,rm.mono (Za0 _ (Zaa hbX5)),hb4.trans (hbX5.mono hb4.size)⟩
     case rest =>
      obtain⟨gb,vt,vb,vp,vd,cb,cp,cv,rfl,rfl,hXm,rm,hbc⟩:=hcut;obtain⟨⟨tA,tc,rfl⟩,⟨bA,bc,rfl⟩,⟨pA,pc,rfl⟩,⟨dA,dc,rfl⟩,⟨cA,cc,rfl⟩,⟨qA,qc,rfl⟩,⟨vA,vc,rfl⟩⟩:=rm.forms;have hXc:=hXr3.kept hbc;have hownc:=hown3.kept (RFrom.mono RMsgR.mono) hbc;have hblc:=hbl3.trans (hbc.mono hbl3.size);have hzc:=hbc.size;clear hXr3 x0 x1 hbody
      by_cases hE0:E=0
      ·subst hE0
       go_wp2_with (refine wpList_load_row_w rfl 66 _ rfl _ rfl _ _ _ _ hXm Tryz.underlying66 rfl (by kernel_rfl) ?_)
       refine(Zhw M _ _ _ _ _ _ _ _ (rm.mono (View.from_le _ _)) hsm.out).mono ?_;rintro e w6 ⟨rfl,hb6⟩;rw[hF.out];have hown6:=hownc.kept (RFrom.mono RMsgR.mono) hb6;have hbl6:=hblc.trans (hb6.mono hblc.size);have hXm6:=hXm.kept hb6;have rm6:=rm.mono (Za0 _ (Zaa hb6));have hz6:=hb6.size;have hlto:=hown3.lt;clear hownc hXc hXm rm
       by_cases hF0:F=0
       ·subst hF0;have hgd:Zfn d at_=true:=by rw[hgood.out];rfl
        obtain⟨k',hk1',hk2'⟩:=Zw2 (ms:=ms) hrun.out.2 hat hgd
        have hrun2:Hid (rcvR d k' (ms++[M]) a3=R∧d.length<k'+a3):=by
         have e3:at_+2+recN d at_=a3:=by rw[hNN.out];have:=ha2.out;have:=ha3.out;omega
         rw[hBB.out,hM.out,e3]at hk1';rw[e3]at hk2';exact⟨hk1'.symm.trans hrun.out.1,hk2'⟩
        clear hk1' hk2' hrun hgood hgd;unfold msgC at hXm6;have hR:RFrom W2.heap.size RMsgR (View.but w6.cell? u7.ownBlock) [.int .i64 M.src,.int .i64 M.dst,.int .i64 M.kind,.int .i64 M.bat.author,.int .i64 M.bat.number,.slice tA M.bat.txs.length tc,.int .i64 M.hdr.author,.int .i64 M.hdr.round,.slice bA M.hdr.batches.length bc,.slice pA M.hdr.parents.length pc,.int .i64 M.slt.author,.int .i64 M.slt.round,.slice dA M.slt.digest.length dc,.int .i64 M.crt.hdr.author,.int .i64 M.crt.hdr.round,.slice cA M.crt.hdr.batches.length cc,.slice qA M.crt.hdr.parents.length qc,.slice vA M.crt.voters.length vc,.int .i64 M.round] M:=⟨_,_,_,_,_,_,_,rfl,rm6.mono (Zpb (by omega) (fun q hq=>(hlto q hq).2))⟩;have hwa:IntKind.i64.wrap ((at_:Int)+((2:Int)+N))=a3:=by rw[IntKind.wrap_i64];omega
        have hwn:IntKind.i64.wrap ((2:Int)+N)=2+N:=by rw[IntKind.wrap_i64];omega
        have hmb:Hid (ms.length≤400000):=by show _≤_;omega
        have hml2:Hid ((ms++[M]).length≤a3):=by show _≤_;have:=ha2.out;have:=ha3.out;simp;omega
        have hsz2:Hid (W2.heap.size≤w6.heap.size):=by show _≤_;omega
        go_wp2_with (first|(refine wpList_load_row rfl 66 _ rfl _ rfl _ _ _ _ hXm6 Tryz.underlying66 rfl (by kernel_rfl) ?_)|(at_builtin;go_loud (refine Za2 (n:=140737488355328) (RFrom.mono RMsgR.mono) M [.int .i64 M.src,.int .i64 M.dst,.int .i64 M.kind,.int .i64 M.bat.author,.int .i64 M.bat.number,.slice tA M.bat.txs.length tc,.int .i64 M.hdr.author,.int .i64 M.hdr.round,.slice bA M.hdr.batches.length bc,.slice pA M.hdr.parents.length pc,.int .i64 M.slt.author,.int .i64 M.slt.round,.slice dA M.slt.digest.length dc,.int .i64 M.crt.hdr.author,.int .i64 M.crt.hdr.round,.slice cA M.crt.hdr.batches.length cc,.slice qA M.crt.hdr.parents.length qc,.slice vA M.crt.voters.length vc,.int .i64 M.round] Zi6 _ _ rfl rfl rfl hown6 hbl6 hsz2.out rfl rfl rfl rfl hR (Nat.le_refl _) (by have:=hmb.out;omega) (by have:=hmb.out;omega) ?_)))
        intro v' w7 ho hbl7 _;clear hown6 hR hXm6 rm6;go_wp2;go_roundw
        case rel=>exact⟨k',a3,ms++[M],rfl,by have:=ha2.out;have:=ha3.out;omega,hrun2,hml2.out,ho,hbl7⟩
        case measure=>have:=ha2.out;have:=ha3.out;simp[intOf];omega
       ·have hng:Hid (Zfn d at_=false):=by show _=_;rw[hgood.out,decide_eq_false hF0,Bool.and_false]
        have hRR:Hid (R=(ms,at_)):=hrun.out.1.symm.trans (rcv_stop hng.out);have hms:=hown6.reads_from (bs:=264) RMsgR.mono (by omega);go_wp2;go_meet;exact⟨at_,ms,rfl,hRR,hat,hms,hbl6⟩
      ·have hng:Hid (Zfn d at_=false):=by show _=_;rw[hgood.out,decide_eq_false hE0];rfl
       have hRR:Hid (R=(ms,at_)):=hrun.out.1.symm.trans (rcv_stop hng.out);have hms:=hownc.reads_from (bs:=264) RMsgR.mono (by omega);go_wp2;go_meet;exact⟨at_,ms,rfl,hRR,hat,hms,hblc⟩
    ·have hng:Hid (Zfn d at_=false):=by show _=_;unfold Zfn;rw[hNN.out,decide_eq_false hlen,Bool.and_false];rfl
     have hRR:Hid (R=(ms,at_)):=hrun.out.1.symm.trans (rcv_stop hng.out);have hms:=hown3.reads_from (bs:=264) RMsgR.mono (by omega);have hgt:(d.length:Int)<(at_:Int)+2+N:=by omega
     go_wp2;go_meet;exact⟨at_,ms,rfl,hRR,hat,hms,hbl3⟩
   ·have hng:Hid (Zfn d at_=false):=by show _=_;unfold Zfn;rw[decide_eq_false h2];rfl
    have hRR:Hid (R=(ms,at_)):=hrun.out.1.symm.trans (rcv_stop hng.out);have hms:=hown.reads_from (bs:=264) RMsgR.mono (by omega);have hgt:¬(at_:Int)+2≤d.length:=by omega
    go_wp2;go_meet;exact⟨at_,ms,rfl,hRR,hat,hms,hbl⟩
 case rest =>
  obtain⟨at_,ms,rfl,hRR,hat,hms,hblc⟩:=hcut;obtain⟨mA,mc,rfl,hf⟩:=id hms;clear hf;have hXc:=hX.kept hblc;have hkc:=hk4.kept hblc;have rc:=r2.mono (Zaa hblc);have hzc:=hblc.size;have hzw2:=hbl2.size;have hac:at_≤c:=by omega
  have hac':(at_:Int)≤(c:Int):=by omega
  have hat0:(0:Int)≤(at_:Int):=by omega
  have rd:=((rF.mono (Za0 _ (Zaa hbX))).mono (Za0 _ (Zaa hblc))).cutN hat (Nat.le_refl at_) hac;have HYY:Hid (Y=if a≤(at_:Int)then a else(at_:Int)):=by show _=_;rw[HY.out,hRR.out]
  clear HY HR Hm
  go_wp2_with fail
  refine Zr [12,13] (.q 0 (.q 1 (.q 2 (.q 3 (.q 4 (.q 5 (.q 6 (.q 7 (.q 8 (.q 9 (.q 10 (.q 11 (.l 12 (.qc 13 .nil)))))))))))))) fun W3 hS=>?_
  repeat((first|refine pq (h:=⟨_,fun w' hS=>by(have hq:=hXc.kept hS;have h0:=hq.cell 0;have h1:=hq.cell 1;simp at h0 h1;go_simp;exact rfl),?_⟩)|refine Zq ?_);simp only[sx])
  refine Zc fun K hK=>?_
  try simp only[sy]
  refine Zh 2 (hkc.kept hS) ?_;intro w4 hB4 hg4;refine hK.out _ _ ?_;clear hK K
  try simp only[sx]
  repeat(refine Zq ?_;simp only[sx])
  refine Zah ?_;have hblw:Below w.heap.size w w4:=Zab ((hbl2.trans (hblc.mono hzw2)).trans (hS.mono (by omega))) (by have:=hS.size;omega) hg4 (by intro k e;injection e;omega);have hms4:=(hms.mono RMsgR.mono (Za0 _ (Zaa hS))).mono RMsgR.mono (Zbj hg4 (by omega));have rd4:=(rd.mono (Za0 _ (Zaa hS))).mono (Zbj hg4 (by omega));clear hms rd rF r2 rc hX hXc hk4 hkc;go_wp2
  all_goals
   refine bodyPost_ret (Zkr rfl rfl (by kernel_rfl) (by kernel_rfl) hB4 rfl) rfl ?_;refine⟨.slice mA ms.length mc,.slice A at_ at_,?_,hblw,?_,?_⟩
   ·first|(rw[show Y=(if (at_:Int)<a then(at_:Int)else a) from HYY.out.trans (Zzi _ _)];rfl)|(rw[HYY.out];rfl)
   ·rw[hRR.out];exact hms4.mono RMsgR.mono (Zbm (by omega))
   ·rw[hRR.out];exact rd4.mono (Zbm (by omega))
theorem Zmn{ev:Operand→Value}(ty:TypeId)(x:Operand)(ho:o.op=.load ty x)(b off:Nat)(hx:ev x=.pointer (some ⟨b,off,none⟩))(cs:List Value)(d:TypeDesc)(hc:w.rangeAt b off cs)(hu:P.underlying ty=some d)(hd:d.isRow=true)(hi:(P.info? ty).map (·.size)=some cs.length):(execOp ev o).run P w=.ok (.value (.agg cs.toArray)) w:=by
 unfold execOp;simp only[ho,hx,Instr.loadAt,Instr.sureAddr,Sem.run_bind,Sem.run_pure,Result.andThen_ok,run_loadVar_mid w b off ty cs d hc hu hd hi]
end Go.Proofs.YtinibgklgehdpaaGreatDoor
