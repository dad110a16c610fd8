/- A part of what the last text stands on. -/
import Derived.Test.YtinibgklgehdpaaGreatDoorK10
namespace Go.Proofs.YtinibgklgehdpaaGreatDoor
open Go.ChangeShapes Go.WideShapes Go.ChangeAt Go.RowKit Qa Qb Qc
set_option linter.all false
set_option maxHeartbeats 20000000
set_option maxRecDepth 100000
theorem Zzx(m:Msg)(hk1:m.kind=1)(vt vb vp vd cb cp cv:Value)(w:World)(r:RMsg w.cell? m vt vb vp vd cb cp cv)(hs:∀s∈m.bat.txs,s.size≤140737488355328) :
 Calls Tryz.prog 49 #[.agg (msgC m vt vb vp vd cb cp cv)] w fun e w'=>e=.returned (.int .i64 (msgF m))∧Below w.heap.size w w':=by
 obtain⟨⟨tA,tc,rfl⟩,⟨bA,bc,rfl⟩,⟨pA,pc,rfl⟩,⟨dA,dc,rfl⟩,⟨cA,cc,rfl⟩,⟨qA,qc,rfl⟩,⟨vA,vc,rfl⟩⟩:=r.forms;have Hs:=Lib.hid hs;clear hs;obtain⟨Q,hQ⟩:∃Q,Hid (msgF m=Q):=⟨_,rfl⟩;rw[hQ.out];cases ha:inB m.src 0 3
 ·have HQ:Hid (Q=2):=hQ.out.symm.trans (by simp[msgF,ha]);unfold msgC
  go_enter Tryz.func49,Tryz.ntmps49
  go_wp2_with (first|(go_at_call 62;refine(Za4 _ _).mono ?_;rintro e w' ⟨rfl,rfl⟩)|fail)
  go_ret;exact⟨Zaj HQ.out.symm,Zac _ _⟩
 cases hb:inB m.dst 0 3
 ·have HQ:Hid (Q=2):=hQ.out.symm.trans (by simp[msgF,ha,hb]);unfold msgC
  go_enter Tryz.func49,Tryz.ntmps49
  go_wp2_with (first|(go_at_call 62;refine(Za4 _ _).mono ?_;rintro e w' ⟨rfl,rfl⟩)|fail)
  go_ret;exact⟨Zaj HQ.out.symm,Zac _ _⟩
 obtain⟨E,hE⟩:∃E,Hid (Zd7 m=E):=⟨_,rfl⟩;obtain⟨X,hX⟩:∃X,Hid (Zk5 m=X):=⟨_,rfl⟩;have HQ:Hid (Q=if inB m.kind 1 5 then(if E≠0 then E else if X then 4 else 0)else 3):=hQ.out.symm.trans (by simp only[msgF,ha,hb,Bool.and_self,if_true];rw[hE.out,hX.out]);clear hQ;unfold msgC
 go_enter Tryz.func49,Tryz.ntmps49
 go_upto_region 1 with fail
 refine Zo fun W hbk hsz hbl=>?_
 have r1:=r.mono (Zaa hbl);have hz:=hbl.size;have hlt0:=hbk.lt;clear r hsz;have g0:=hbk.cell 0;have g1:=hbk.cell 1;have g2:=hbk.cell 2;simp at g0 g1 g2
 go_wp2_with (first|(go_at_call 62;refine(Za4 _ _).mono ?_;rintro e w' ⟨rfl,rfl⟩)|(refine wpList_load_row rfl 66 _ rfl _ rfl _ _ _ _ hbk Tryz.underlying66 rfl (by kernel_rfl) ?_)|(refine Zj 19 (Blk.new _ _ _) ?_))
 intro w2 hB2 hg2;have hb2:Below W.heap.size W w2:=Zab (Zac _ _) (Zau _ (Nat.le_refl _)) hg2 (by intro k e;injection e;omega);have hbl2:=hbl.trans (hb2.mono hz);have hbk2:=hbk.kept hb2;have r2:=r1.mono (Zaa hb2);have hz2:=hb2.size;have r1b:=r1;have hb2':=hb2;clear hg2 hb2 r1 hbk g0 g1 g2;have hq:=hbk2;have g2:=hq.cell 2;have g3:=hq.cell 3;have g4:=hq.cell 4;have g5:=hq.cell 5;have g6:=hq.cell 6;have g7:=hq.cell 7;have g8:=hq.cell 8;have g9:=hq.cell 9;have g10:=hq.cell 10;have g11:=hq.cell 11;have g12:=hq.cell 12;have g13:=hq.cell 13;have g14:=hq.cell 14;have g15:=hq.cell 15;have g16:=hq.cell 16;have g17:=hq.cell 17;have g18:=hq.cell 18;simp at g2 g3 g4 g5 g6 g7 g8 g9 g10 g11 g12 g13 g14 g15 g16 g17 g18;have r2g:RMsg (View.but w2.cell? (some W.heap.size)) m (.slice tA m.bat.txs.length tc) (.slice bA m.hdr.batches.length bc) (.slice pA m.hdr.parents.length pc) (.slice dA m.slt.digest.length dc) (.slice cA m.crt.hdr.batches.length cc) (.slice qA m.crt.hdr.parents.length qc) (.slice vA m.crt.voters.length vc):=r1b.mono (Zda hb2');have HE:Hid (E=Zcq m.bat.author m.bat.number m.bat.txs):=hE.out.symm.trans (by simp[Zd7,hk1]);have HQ:Hid (Q=if E≠0 then E else if X then 4 else 0):=by show _=_;rw[HQ.out,if_pos (by simp[inB,hk1])]
 have hR:Zjp m=⟨m.src,m.dst,1,⟨0,0,[]⟩,m.hdr,m.slt,m.crt,m.round⟩:=by unfold Zjp;simp[hk1]
 try rw[hk1]at g2
 go_wp2_with (refine Zai (n:=3) rfl rfl rfl rfl (by kernel_rfl) rfl hB2 (by simp) rfl ?_)
 intro w3 hB3 hg3;have hB3:Blk w3 W.heap.size 66 #[.int .i64 m.src,.int .i64 m.dst,.int .i64 1,.int .i64 0,.int .i64 0,.slice none 0 0,.int .i64 m.hdr.author,.int .i64 m.hdr.round,.slice bA m.hdr.batches.length bc,.slice pA m.hdr.parents.length pc,.int .i64 m.slt.author,.int .i64 m.slt.round,.slice dA m.slt.digest.length dc,.int .i64 m.crt.hdr.author,.int .i64 m.crt.hdr.round,.slice cA m.crt.hdr.batches.length cc,.slice qA m.crt.hdr.parents.length qc,.slice vA m.crt.voters.length vc,.int .i64 m.round]:=hB3;have hb3:Below W.heap.size w2 w3:=Zab (Below.refl _ _) hz2 hg3 (by intro k e;injection e;omega);have hbl3:Below w.heap.size w w3:=Zab hbl2 (by omega) hg3 (by intro k e;injection e;omega);have hbk3:=hbk2.below hb3 (by omega);have r3:=r2g.mono (Zbn hg3);have hz3:=hb3.size;clear hg3 hb3 g2 g3 g4 g5 g6 g7 g8 g9 g10 g11 g12 g13 g14 g15 g16 g17 g18;have hq:=hbk3;have g2:=hq.cell 2;have g3:=hq.cell 3;have g4:=hq.cell 4;have g5:=hq.cell 5;have g6:=hq.cell 6;have g7:=hq.cell 7;have g8:=hq.cell 8;have g9:=hq.cell 9;have g10:=hq.cell 10;have g11:=hq.cell 11;have g12:=hq.cell 12;have g13:=hq.cell 13;have g14:=hq.cell 14;have g15:=hq.cell 15;have g16:=hq.cell 16;have g17:=hq.cell 17;have g18:=hq.cell 18;simp at g2 g3 g4 g5 g6 g7 g8 g9 g10 g11 g12 g13 g14 g15 g16 g17 g18
 go_wp2_with fail
 refine(Zhc _ _ _ _ _ r3.txs Hs.out).mono ?_;rintro e w4 ⟨rfl,hb4⟩;rw[←HE.out];have hbl4:=hbl3.trans (hb4.mono hbl3.size);have hB4:=hB3.kept hb4;have r4:=r3.mono (Zaa hb4)
 have rR:RMsg w4.cell? (⟨m.src,m.dst,1,⟨0,0,[]⟩,m.hdr,m.slt,m.crt,m.round⟩:Msg) (.slice none 0 0) (.slice bA m.hdr.batches.length bc) (.slice pA m.hdr.parents.length pc) (.slice dA m.slt.digest.length dc) (.slice cA m.crt.hdr.batches.length cc) (.slice qA m.crt.hdr.parents.length qc) (.slice vA m.crt.voters.length vc):=by
  exact⟨RVec.nil _ _ _,r4.bats,r4.pars,r4.dig,r4.cbats,r4.cpars,r4.vots⟩
 by_cases hE0:E=0
 ·subst hE0;have HQ':Hid (Q=if X then 4 else 0):=by show _=_;rw[HQ.out];rfl
  have hNone:Zno ⟨m.src,m.dst,1,⟨0,0,[]⟩,m.hdr,m.slt,m.crt,m.round⟩= !X:=by rw[←hR,Zge m (by omega),hX.out]
  go_wp2_with (refine wpList_load_row rfl 66 _ rfl _ rfl _ _ _ _ hB4 Tryz.underlying66 rfl (by kernel_rfl) ?_)
  refine(Zh7 ⟨m.src,m.dst,1,⟨0,0,[]⟩,m.hdr,m.slt,m.crt,m.round⟩ (.slice none 0 0) (.slice bA m.hdr.batches.length bc) (.slice pA m.hdr.parents.length pc) (.slice dA m.slt.digest.length dc) (.slice cA m.crt.hdr.batches.length cc) (.slice qA m.crt.hdr.parents.length qc) (.slice vA m.crt.voters.length vc) _ rR).mono ?_;rintro e w5 ⟨rfl,hb5⟩;rw[hNone];have hbl5:=hbl4.trans (hb5.mono hbl4.size);cases X
  ·go_wp2;go_ret;exact⟨Zaj (by rw[HQ'.out];rfl),hbl5⟩
  ·go_wp2;go_ret;exact⟨Zaj (by rw[HQ'.out];rfl),hbl5⟩
 ·have HQ':Hid (Q=E):=by show _=_;rw[HQ.out,if_pos hE0]
  go_wp2;go_ret;exact⟨Zaj HQ'.out.symm,hbl4⟩
theorem Zzw(m:Msg)(hk2:m.kind=2)(vt vb vp vd cb cp cv:Value)(w:World)(r:RMsg w.cell? m vt vb vp vd cb cp cv)(hs:∀s∈m.bat.txs,s.size≤140737488355328) :
 Calls Tryz.prog 49 #[.agg (msgC m vt vb vp vd cb cp cv)] w fun e w'=>e=.returned (.int .i64 (msgF m))∧Below w.heap.size w w':=by
 obtain⟨⟨tA,tc,rfl⟩,⟨bA,bc,rfl⟩,⟨pA,pc,rfl⟩,⟨dA,dc,rfl⟩,⟨cA,cc,rfl⟩,⟨qA,qc,rfl⟩,⟨vA,vc,rfl⟩⟩:=r.forms;have Hs:=Lib.hid hs;clear hs;obtain⟨Q,hQ⟩:∃Q,Hid (msgF m=Q):=⟨_,rfl⟩;rw[hQ.out];cases ha:inB m.src 0 3
 ·have HQ:Hid (Q=2):=hQ.out.symm.trans (by simp[msgF,ha]);unfold msgC
  go_enter Tryz.func49,Tryz.ntmps49
  go_wp2_with (first|(go_at_call 62;refine(Za4 _ _).mono ?_;rintro e w' ⟨rfl,rfl⟩)|fail)
  go_ret;exact⟨Zaj HQ.out.symm,Zac _ _⟩
 cases hb:inB m.dst 0 3
 ·have HQ:Hid (Q=2):=hQ.out.symm.trans (by simp[msgF,ha,hb]);unfold msgC
  go_enter Tryz.func49,Tryz.ntmps49
  go_wp2_with (first|(go_at_call 62;refine(Za4 _ _).mono ?_;rintro e w' ⟨rfl,rfl⟩)|fail)
  go_ret;exact⟨Zaj HQ.out.symm,Zac _ _⟩
 obtain⟨E,hE⟩:∃E,Hid (Zd7 m=E):=⟨_,rfl⟩;obtain⟨X,hX⟩:∃X,Hid (Zk5 m=X):=⟨_,rfl⟩;have HQ:Hid (Q=if inB m.kind 1 5 then(if E≠0 then E else if X then 4 else 0)else 3):=hQ.out.symm.trans (by simp only[msgF,ha,hb,Bool.and_self,if_true];rw[hE.out,hX.out]);clear hQ;unfold msgC
 go_enter Tryz.func49,Tryz.ntmps49
 go_upto_region 1 with fail
 refine Zo fun W hbk hsz hbl=>?_
 have r1:=r.mono (Zaa hbl);have hz:=hbl.size;have hlt0:=hbk.lt;clear r hsz;have g0:=hbk.cell 0;have g1:=hbk.cell 1;have g2:=hbk.cell 2;simp at g0 g1 g2
 go_wp2_with (first|(go_at_call 62;refine(Za4 _ _).mono ?_;rintro e w' ⟨rfl,rfl⟩)|(refine wpList_load_row rfl 66 _ rfl _ rfl _ _ _ _ hbk Tryz.underlying66 rfl (by kernel_rfl) ?_)|(refine Zj 19 (Blk.new _ _ _) ?_))
 intro w2 hB2 hg2;have hb2:Below W.heap.size W w2:=Zab (Zac _ _) (Zau _ (Nat.le_refl _)) hg2 (by intro k e;injection e;omega);have hbl2:=hbl.trans (hb2.mono hz);have hbk2:=hbk.kept hb2;have r2:=r1.mono (Zaa hb2);have hz2:=hb2.size;have r1b:=r1;have hb2':=hb2;clear hg2 hb2 r1 hbk g0 g1 g2;have hq:=hbk2;have g2:=hq.cell 2;have g3:=hq.cell 3;have g4:=hq.cell 4;have g5:=hq.cell 5;have g6:=hq.cell 6;have g7:=hq.cell 7;have g8:=hq.cell 8;have g9:=hq.cell 9;have g10:=hq.cell 10;have g11:=hq.cell 11;have g12:=hq.cell 12;have g13:=hq.cell 13;have g14:=hq.cell 14;have g15:=hq.cell 15;have g16:=hq.cell 16;have g17:=hq.cell 17;have g18:=hq.cell 18;simp at g2 g3 g4 g5 g6 g7 g8 g9 g10 g11 g12 g13 g14 g15 g16 g17 g18;have r2g:RMsg (View.but w2.cell? (some W.heap.size)) m (.slice tA m.bat.txs.length tc) (.slice bA m.hdr.batches.length bc) (.slice pA m.hdr.parents.length pc) (.slice dA m.slt.digest.length dc) (.slice cA m.crt.hdr.batches.length cc) (.slice qA m.crt.hdr.parents.length qc) (.slice vA m.crt.voters.length vc):=r1b.mono (Zda hb2');have HE:Hid (E=Zb3 m.hdr.author m.hdr.round m.hdr.batches m.hdr.parents):=hE.out.symm.trans (by simp[Zd7,hk2]);have HQ:Hid (Q=if E≠0 then E else if X then 4 else 0):=by show _=_;rw[HQ.out,if_pos (by simp[inB,hk2])]
 have hR:Zjp m=⟨m.src,m.dst,2,m.bat,⟨0,0,[],[]⟩,m.slt,m.crt,m.round⟩:=by unfold Zjp;simp[hk2]
 try rw[hk2]at g2
 go_wp2_with (refine Zai (n:=4) rfl rfl rfl rfl (by kernel_rfl) rfl hB2 (by simp) rfl ?_)
 intro w3 hB3 hg3;have hB3:Blk w3 W.heap.size 66 #[.int .i64 m.src,.int .i64 m.dst,.int .i64 2,.int .i64 m.bat.author,.int .i64 m.bat.number,.slice tA m.bat.txs.length tc,.int .i64 0,.int .i64 0,.slice none 0 0,.slice none 0 0,.int .i64 m.slt.author,.int .i64 m.slt.round,.slice dA m.slt.digest.length dc,.int .i64 m.crt.hdr.author,.int .i64 m.crt.hdr.round,.slice cA m.crt.hdr.batches.length cc,.slice qA m.crt.hdr.parents.length qc,.slice vA m.crt.voters.length vc,.int .i64 m.round]:=hB3;have hb3:Below W.heap.size w2 w3:=Zab (Below.refl _ _) hz2 hg3 (by intro k e;injection e;omega);have hbl3:Below w.heap.size w w3:=Zab hbl2 (by omega) hg3 (by intro k e;injection e;omega);have hbk3:=hbk2.below hb3 (by omega);have r3:=r2g.mono (Zbn hg3);have hz3:=hb3.size;clear hg3 hb3 g2 g3 g4 g5 g6 g7 g8 g9 g10 g11 g12 g13 g14 g15 g16 g17 g18;have hq:=hbk3;have g2:=hq.cell 2;have g3:=hq.cell 3;have g4:=hq.cell 4;have g5:=hq.cell 5;have g6:=hq.cell 6;have g7:=hq.cell 7;have g8:=hq.cell 8;have g9:=hq.cell 9;have g10:=hq.cell 10;have g11:=hq.cell 11;have g12:=hq.cell 12;have g13:=hq.cell 13;have g14:=hq.cell 14;have g15:=hq.cell 15;have g16:=hq.cell 16;have g17:=hq.cell 17;have g18:=hq.cell 18;simp at g2 g3 g4 g5 g6 g7 g8 g9 g10 g11 g12 g13 g14 g15 g16 g17 g18
 go_wp2_with fail
 refine(Zdn _ _ _ _ _ _ _ r3.bats r3.pars).mono ?_;rintro e w4 ⟨rfl,hb4⟩;rw[←HE.out];have hbl4:=hbl3.trans (hb4.mono hbl3.size);have hB4:=hB3.kept hb4;have r4:=r3.mono (Zaa hb4)
 have rR:RMsg w4.cell? (⟨m.src,m.dst,2,m.bat,⟨0,0,[],[]⟩,m.slt,m.crt,m.round⟩:Msg) (.slice tA m.bat.txs.length tc) (.slice none 0 0) (.slice none 0 0) (.slice dA m.slt.digest.length dc) (.slice cA m.crt.hdr.batches.length cc) (.slice qA m.crt.hdr.parents.length qc) (.slice vA m.crt.voters.length vc):=by
  exact⟨r4.txs,RSl.nil _ _ _ _,RSl.nil _ _ _ _,r4.dig,r4.cbats,r4.cpars,r4.vots⟩
 by_cases hE0:E=0
 ·subst hE0;have HQ':Hid (Q=if X then 4 else 0):=by show _=_;rw[HQ.out];rfl
  have hNone:Zno ⟨m.src,m.dst,2,m.bat,⟨0,0,[],[]⟩,m.slt,m.crt,m.round⟩= !X:=by rw[←hR,Zge m (by omega),hX.out]
  go_wp2_with (refine wpList_load_row rfl 66 _ rfl _ rfl _ _ _ _ hB4 Tryz.underlying66 rfl (by kernel_rfl) ?_)
  refine(Zh7 ⟨m.src,m.dst,2,m.bat,⟨0,0,[],[]⟩,m.slt,m.crt,m.round⟩ (.slice tA m.bat.txs.length tc) (.slice none 0 0) (.slice none 0 0) (.slice dA m.slt.digest.length dc) (.slice cA m.crt.hdr.batches.length cc) (.slice qA m.crt.hdr.parents.length qc) (.slice vA m.crt.voters.length vc) _ rR).mono ?_;rintro e w5 ⟨rfl,hb5⟩;rw[hNone];have hbl5:=hbl4.trans (hb5.mono hbl4.size);cases X
  ·go_wp2;go_ret;exact⟨Zaj (by rw[HQ'.out];rfl),hbl5⟩
  ·go_wp2;go_ret;exact⟨Zaj (by rw[HQ'.out];rfl),hbl5⟩
 ·have HQ':Hid (Q=E):=by show _=_;rw[HQ.out,if_pos hE0]
  go_wp2;go_ret;exact⟨Zaj HQ'.out.symm,hbl4⟩
theorem Zzv(m:Msg)(hk3:m.kind=3)(vt vb vp vd cb cp cv:Value)(w:World)(r:RMsg w.cell? m vt vb vp vd cb cp cv)(hs:∀s∈m.bat.txs,s.size≤140737488355328) :
 Calls Tryz.prog 49 #[.agg (msgC m vt vb vp vd cb cp cv)] w fun e w'=>e=.returned (.int .i64 (msgF m))∧Below w.heap.size w w':=by
 obtain⟨⟨tA,tc,rfl⟩,⟨bA,bc,rfl⟩,⟨pA,pc,rfl⟩,⟨dA,dc,rfl⟩,⟨cA,cc,rfl⟩,⟨qA,qc,rfl⟩,⟨vA,vc,rfl⟩⟩:=r.forms;have Hs:=Lib.hid hs;clear hs;obtain⟨Q,hQ⟩:∃Q,Hid (msgF m=Q):=⟨_,rfl⟩;rw[hQ.out];cases ha:inB m.src 0 3
 ·have HQ:Hid (Q=2):=hQ.out.symm.trans (by simp[msgF,ha]);unfold msgC
  go_enter Tryz.func49,Tryz.ntmps49
  go_wp2_with (first|(go_at_call 62;refine(Za4 _ _).mono ?_;rintro e w' ⟨rfl,rfl⟩)|fail)
  go_ret;exact⟨Zaj HQ.out.symm,Zac _ _⟩
 cases hb:inB m.dst 0 3
 ·have HQ:Hid (Q=2):=hQ.out.symm.trans (by simp[msgF,ha,hb]);unfold msgC
  go_enter Tryz.func49,Tryz.ntmps49
  go_wp2_with (first|(go_at_call 62;refine(Za4 _ _).mono ?_;rintro e w' ⟨rfl,rfl⟩)|fail)
  go_ret;exact⟨Zaj HQ.out.symm,Zac _ _⟩
 obtain⟨E,hE⟩:∃E,Hid (Zd7 m=E):=⟨_,rfl⟩;obtain⟨X,hX⟩:∃X,Hid (Zk5 m=X):=⟨_,rfl⟩;have HQ:Hid (Q=if inB m.kind 1 5 then(if E≠0 then E else if X then 4 else 0)else 3):=hQ.out.symm.trans (by simp only[msgF,ha,hb,Bool.and_self,if_true];rw[hE.out,hX.out]);clear hQ;unfold msgC
 go_enter Tryz.func49,Tryz.ntmps49
 go_upto_region 1 with fail
 refine Zo fun W hbk hsz hbl=>?_
 have r1:=r.mono (Zaa hbl);have hz:=hbl.size;have hlt0:=hbk.lt;clear r hsz;have g0:=hbk.cell 0;have g1:=hbk.cell 1;have g2:=hbk.cell 2;simp at g0 g1 g2
 go_wp2_with (first|(go_at_call 62;refine(Za4 _ _).mono ?_;rintro e w' ⟨rfl,rfl⟩)|(refine wpList_load_row rfl 66 _ rfl _ rfl _ _ _ _ hbk Tryz.underlying66 rfl (by kernel_rfl) ?_)|(refine Zj 19 (Blk.new _ _ _) ?_))
 intro w2 hB2 hg2;have hb2:Below W.heap.size W w2:=Zab (Zac _ _) (Zau _ (Nat.le_refl _)) hg2 (by intro k e;injection e;omega);have hbl2:=hbl.trans (hb2.mono hz);have hbk2:=hbk.kept hb2;have r2:=r1.mono (Zaa hb2);have hz2:=hb2.size;have r1b:=r1;have hb2':=hb2;clear hg2 hb2 r1 hbk g0 g1 g2;have hq:=hbk2;have g2:=hq.cell 2;have g3:=hq.cell 3;have g4:=hq.cell 4;have g5:=hq.cell 5;have g6:=hq.cell 6;have g7:=hq.cell 7;have g8:=hq.cell 8;have g9:=hq.cell 9;have g10:=hq.cell 10;have g11:=hq.cell 11;have g12:=hq.cell 12;have g13:=hq.cell 13;have g14:=hq.cell 14;have g15:=hq.cell 15;have g16:=hq.cell 16;have g17:=hq.cell 17;have g18:=hq.cell 18;simp at g2 g3 g4 g5 g6 g7 g8 g9 g10 g11 g12 g13 g14 g15 g16 g17 g18;have r2g:RMsg (View.but w2.cell? (some W.heap.size)) m (.slice tA m.bat.txs.length tc) (.slice bA m.hdr.batches.length bc) (.slice pA m.hdr.parents.length pc) (.slice dA m.slt.digest.length dc) (.slice cA m.crt.hdr.batches.length cc) (.slice qA m.crt.hdr.parents.length qc) (.slice vA m.crt.voters.length vc):=r1b.mono (Zda hb2');have HE:Hid (E=Zf7 m.slt.author m.slt.round m.slt.digest.length):=hE.out.symm.trans (by simp[Zd7,hk3]);have HQ:Hid (Q=if E≠0 then E else if X then 4 else 0):=by show _=_;rw[HQ.out,if_pos (by simp[inB,hk3])]
 have hR:Zjp m=⟨m.src,m.dst,3,m.bat,m.hdr,⟨0,0,[]⟩,m.crt,m.round⟩:=by unfold Zjp;simp[hk3]
 try rw[hk3]at g2
 go_wp2_with (refine Zai (n:=3) rfl rfl rfl rfl (by kernel_rfl) rfl hB2 (by simp) rfl ?_)
 intro w3 hB3 hg3;have hB3:Blk w3 W.heap.size 66 #[.int .i64 m.src,.int .i64 m.dst,.int .i64 3,.int .i64 m.bat.author,.int .i64 m.bat.number,.slice tA m.bat.txs.length tc,.int .i64 m.hdr.author,.int .i64 m.hdr.round,.slice bA m.hdr.batches.length bc,.slice pA m.hdr.parents.length pc,.int .i64 0,.int .i64 0,.slice none 0 0,.int .i64 m.crt.hdr.author,.int .i64 m.crt.hdr.round,.slice cA m.crt.hdr.batches.length cc,.slice qA m.crt.hdr.parents.length qc,.slice vA m.crt.voters.length vc,.int .i64 m.round]:=hB3;have hb3:Below W.heap.size w2 w3:=Zab (Below.refl _ _) hz2 hg3 (by intro k e;injection e;omega);have hbl3:Below w.heap.size w w3:=Zab hbl2 (by omega) hg3 (by intro k e;injection e;omega);have hbk3:=hbk2.below hb3 (by omega);have r3:=r2g.mono (Zbn hg3);have hz3:=hb3.size;clear hg3 hb3 g2 g3 g4 g5 g6 g7 g8 g9 g10 g11 g12 g13 g14 g15 g16 g17 g18;have hq:=hbk3;have g2:=hq.cell 2;have g3:=hq.cell 3;have g4:=hq.cell 4;have g5:=hq.cell 5;have g6:=hq.cell 6;have g7:=hq.cell 7;have g8:=hq.cell 8;have g9:=hq.cell 9;have g10:=hq.cell 10;have g11:=hq.cell 11;have g12:=hq.cell 12;have g13:=hq.cell 13;have g14:=hq.cell 14;have g15:=hq.cell 15;have g16:=hq.cell 16;have g17:=hq.cell 17;have g18:=hq.cell 18;simp at g2 g3 g4 g5 g6 g7 g8 g9 g10 g11 g12 g13 g14 g15 g16 g17 g18
 go_wp2_with fail
 refine(Zej _ _ _ _ _ _).mono ?_;rintro e w4 ⟨rfl,hb4⟩;rw[←HE.out];have hbl4:=hbl3.trans (hb4.mono hbl3.size);have hB4:=hB3.kept hb4;have r4:=r3.mono (Zaa hb4)
 have rR:RMsg w4.cell? (⟨m.src,m.dst,3,m.bat,m.hdr,⟨0,0,[]⟩,m.crt,m.round⟩:Msg) (.slice tA m.bat.txs.length tc) (.slice bA m.hdr.batches.length bc) (.slice pA m.hdr.parents.length pc) (.slice none 0 0) (.slice cA m.crt.hdr.batches.length cc) (.slice qA m.crt.hdr.parents.length qc) (.slice vA m.crt.voters.length vc):=by
  exact⟨r4.txs,r4.bats,r4.pars,RVec.nil _ _ _,r4.cbats,r4.cpars,r4.vots⟩
 by_cases hE0:E=0
 ·subst hE0;have HQ':Hid (Q=if X then 4 else 0):=by show _=_;rw[HQ.out];rfl
  have hNone:Zno ⟨m.src,m.dst,3,m.bat,m.hdr,⟨0,0,[]⟩,m.crt,m.round⟩= !X:=by rw[←hR,Zge m (by omega),hX.out]
  go_wp2_with (refine wpList_load_row rfl 66 _ rfl _ rfl _ _ _ _ hB4 Tryz.underlying66 rfl (by kernel_rfl) ?_)
  refine(Zh7 ⟨m.src,m.dst,3,m.bat,m.hdr,⟨0,0,[]⟩,m.crt,m.round⟩ (.slice tA m.bat.txs.length tc) (.slice bA m.hdr.batches.length bc) (.slice pA m.hdr.parents.length pc) (.slice none 0 0) (.slice cA m.crt.hdr.batches.length cc) (.slice qA m.crt.hdr.parents.length qc) (.slice vA m.crt.voters.length vc) _ rR).mono ?_;rintro e w5 ⟨rfl,hb5⟩;rw[hNone];have hbl5:=hbl4.trans (hb5.mono hbl4.size);cases X
  ·go_wp2;go_ret;exact⟨Zaj (by rw[HQ'.out];rfl),hbl5⟩
  ·go_wp2;go_ret;exact⟨Zaj (by rw[HQ'.out];rfl),hbl5⟩
 ·have HQ':Hid (Q=E):=by show _=_;rw[HQ.out,if_pos hE0]
  go_wp2;go_ret;exact⟨Zaj HQ'.out.symm,hbl4⟩
theorem Zzu(m:Msg)(hk4:m.kind=4)(vt vb vp vd cb cp cv:Value)(w:World)(r:RMsg w.cell? m vt vb vp vd cb cp cv)(hs:∀s∈m.bat.txs,s.size≤140737488355328) :
 Calls Tryz.prog 49 #[.agg (msgC m vt vb vp vd cb cp cv)] w fun e w'=>e=.returned (.int .i64 (msgF m))∧Below w.heap.size w w':=by
 obtain⟨⟨tA,tc,rfl⟩,⟨bA,bc,rfl⟩,⟨pA,pc,rfl⟩,⟨dA,dc,rfl⟩,⟨cA,cc,rfl⟩,⟨qA,qc,rfl⟩,⟨vA,vc,rfl⟩⟩:=r.forms;have Hs:=Lib.hid hs;clear hs;obtain⟨Q,hQ⟩:∃Q,Hid (msgF m=Q):=⟨_,rfl⟩;rw[hQ.out];cases ha:inB m.src 0 3
 ·have HQ:Hid (Q=2):=hQ.out.symm.trans (by simp[msgF,ha]);unfold msgC
  go_enter Tryz.func49,Tryz.ntmps49
  go_wp2_with (first|(go_at_call 62;refine(Za4 _ _).mono ?_;rintro e w' ⟨rfl,rfl⟩)|fail)
  go_ret;exact⟨Zaj HQ.out.symm,Zac _ _⟩
 cases hb:inB m.dst 0 3
 ·have HQ:Hid (Q=2):=hQ.out.symm.trans (by simp[msgF,ha,hb]);unfold msgC
  go_enter Tryz.func49,Tryz.ntmps49
  go_wp2_with (first|(go_at_call 62;refine(Za4 _ _).mono ?_;rintro e w' ⟨rfl,rfl⟩)|fail)
  go_ret;exact⟨Zaj HQ.out.symm,Zac _ _⟩
 obtain⟨E,hE⟩:∃E,Hid (Zd7 m=E):=⟨_,rfl⟩;obtain⟨X,hX⟩:∃X,Hid (Zk5 m=X):=⟨_,rfl⟩;have HQ:Hid (Q=if inB m.kind 1 5 then(if E≠0 then E else if X then 4 else 0)else 3):=hQ.out.symm.trans (by simp only[msgF,ha,hb,Bool.and_self,if_true];rw[hE.out,hX.out]);clear hQ;unfold msgC
 go_enter Tryz.func49,Tryz.ntmps49
 go_upto_region 1 with fail
 refine Zo fun W hbk hsz hbl=>?_
 have r1:=r.mono (Zaa hbl);have hz:=hbl.size;have hlt0:=hbk.lt;clear r hsz;have g0:=hbk.cell 0;have g1:=hbk.cell 1;have g2:=hbk.cell 2;simp at g0 g1 g2
 go_wp2_with (first|(go_at_call 62;refine(Za4 _ _).mono ?_;rintro e w' ⟨rfl,rfl⟩)|(refine wpList_load_row rfl 66 _ rfl _ rfl _ _ _ _ hbk Tryz.underlying66 rfl (by kernel_rfl) ?_)|(refine Zj 19 (Blk.new _ _ _) ?_))
 intro w2 hB2 hg2;have hb2:Below W.heap.size W w2:=Zab (Zac _ _) (Zau _ (Nat.le_refl _)) hg2 (by intro k e;injection e;omega);have hbl2:=hbl.trans (hb2.mono hz);have hbk2:=hbk.kept hb2;have r2:=r1.mono (Zaa hb2);have hz2:=hb2.size;have r1b:=r1;have hb2':=hb2;clear hg2 hb2 r1 hbk g0 g1 g2;have hq:=hbk2;have g2:=hq.cell 2;have g3:=hq.cell 3;have g4:=hq.cell 4;have g5:=hq.cell 5;have g6:=hq.cell 6;have g7:=hq.cell 7;have g8:=hq.cell 8;have g9:=hq.cell 9;have g10:=hq.cell 10;have g11:=hq.cell 11;have g12:=hq.cell 12;have g13:=hq.cell 13;have g14:=hq.cell 14;have g15:=hq.cell 15;have g16:=hq.cell 16;have g17:=hq.cell 17;have g18:=hq.cell 18;simp at g2 g3 g4 g5 g6 g7 g8 g9 g10 g11 g12 g13 g14 g15 g16 g17 g18;have r2g:RMsg (View.but w2.cell? (some W.heap.size)) m (.slice tA m.bat.txs.length tc) (.slice bA m.hdr.batches.length bc) (.slice pA m.hdr.parents.length pc) (.slice dA m.slt.digest.length dc) (.slice cA m.crt.hdr.batches.length cc) (.slice qA m.crt.hdr.parents.length qc) (.slice vA m.crt.voters.length vc):=r1b.mono (Zda hb2');have HE:Hid (E=Zg4 m.crt.hdr.author m.crt.hdr.round m.crt.hdr.batches m.crt.hdr.parents m.crt.voters):=hE.out.symm.trans (by simp[Zd7,hk4]);have HQ:Hid (Q=if E≠0 then E else if X then 4 else 0):=by show _=_;rw[HQ.out,if_pos (by simp[inB,hk4])]
 have hR:Zjp m=⟨m.src,m.dst,4,m.bat,m.hdr,m.slt,⟨⟨0,0,[],[]⟩,[]⟩,m.round⟩:=by unfold Zjp;simp[hk4]
 try rw[hk4]at g2
 go_wp2_with (refine Zai (n:=5) rfl rfl rfl rfl (by kernel_rfl) rfl hB2 (by simp) rfl ?_)
 intro w3 hB3 hg3;have hB3:Blk w3 W.heap.size 66 #[.int .i64 m.src,.int .i64 m.dst,.int .i64 4,.int .i64 m.bat.author,.int .i64 m.bat.number,.slice tA m.bat.txs.length tc,.int .i64 m.hdr.author,.int .i64 m.hdr.round,.slice bA m.hdr.batches.length bc,.slice pA m.hdr.parents.length pc,.int .i64 m.slt.author,.int .i64 m.slt.round,.slice dA m.slt.digest.length dc,.int .i64 0,.int .i64 0,.slice none 0 0,.slice none 0 0,.slice none 0 0,.int .i64 m.round]:=hB3;have hb3:Below W.heap.size w2 w3:=Zab (Below.refl _ _) hz2 hg3 (by intro k e;injection e;omega);have hbl3:Below w.heap.size w w3:=Zab hbl2 (by omega) hg3 (by intro k e;injection e;omega);have hbk3:=hbk2.below hb3 (by omega);have r3:=r2g.mono (Zbn hg3);have hz3:=hb3.size;clear hg3 hb3 g2 g3 g4 g5 g6 g7 g8 g9 g10 g11 g12 g13 g14 g15 g16 g17 g18;have hq:=hbk3;have g2:=hq.cell 2;have g3:=hq.cell 3;have g4:=hq.cell 4;have g5:=hq.cell 5;have g6:=hq.cell 6;have g7:=hq.cell 7;have g8:=hq.cell 8;have g9:=hq.cell 9;have g10:=hq.cell 10;have g11:=hq.cell 11;have g12:=hq.cell 12;have g13:=hq.cell 13;have g14:=hq.cell 14;have g15:=hq.cell 15;have g16:=hq.cell 16;have g17:=hq.cell 17;have g18:=hq.cell 18;simp at g2 g3 g4 g5 g6 g7 g8 g9 g10 g11 g12 g13 g14 g15 g16 g17 g18
 go_wp2_with fail
 refine(Zek _ _ _ _ _ _ _ _ _ r3.cbats r3.cpars r3.vots).mono ?_;rintro e w4 ⟨rfl,hb4⟩;rw[←HE.out];have hbl4:=hbl3.trans (hb4.mono hbl3.size);have hB4:=hB3.kept hb4;have r4:=r3.mono (Zaa hb4)
 have rR:RMsg w4.cell? (⟨m.src,m.dst,4,m.bat,m.hdr,m.slt,⟨⟨0,0,[],[]⟩,[]⟩,m.round⟩:Msg) (.slice tA m.bat.txs.length tc) (.slice bA m.hdr.batches.length bc) (.slice pA m.hdr.parents.length pc) (.slice dA m.slt.digest.length dc) (.slice none 0 0) (.slice none 0 0) (.slice none 0 0):=by
  exact⟨r4.txs,r4.bats,r4.pars,r4.dig,RSl.nil _ _ _ _,RSl.nil _ _ _ _,RVec.nil _ _ _⟩
 by_cases hE0:E=0
 ·subst hE0;have HQ':Hid (Q=if X then 4 else 0):=by show _=_;rw[HQ.out];rfl
  have hNone:Zno ⟨m.src,m.dst,4,m.bat,m.hdr,m.slt,⟨⟨0,0,[],[]⟩,[]⟩,m.round⟩= !X:=by rw[←hR,Zge m (by omega),hX.out]
  go_wp2_with (refine wpList_load_row rfl 66 _ rfl _ rfl _ _ _ _ hB4 Tryz.underlying66 rfl (by kernel_rfl) ?_)
  refine(Zh7 ⟨m.src,m.dst,4,m.bat,m.hdr,m.slt,⟨⟨0,0,[],[]⟩,[]⟩,m.round⟩ (.slice tA m.bat.txs.length tc) (.slice bA m.hdr.batches.length bc) (.slice pA m.hdr.parents.length pc) (.slice dA m.slt.digest.length dc) (.slice none 0 0) (.slice none 0 0) (.slice none 0 0) _ rR).mono ?_;rintro e w5 ⟨rfl,hb5⟩;rw[hNone];have hbl5:=hbl4.trans (hb5.mono hbl4.size);cases X
  ·go_wp2;go_ret;exact⟨Zaj (by rw[HQ'.out];rfl),hbl5⟩
  ·go_wp2;go_ret;exact⟨Zaj (by rw[HQ'.out];rfl),hbl5⟩
 ·have HQ':Hid (Q=E):=by show _=_;rw[HQ.out,if_pos hE0]
  go_wp2;go_ret;exact⟨Zaj HQ'.out.symm,hbl4⟩
theorem Zzt(m:Msg)(hk5:m.kind=5)(vt vb vp vd cb cp cv:Value)(w:World)(r:RMsg w.cell? m vt vb vp vd cb cp cv)(hs:∀s∈m.bat.txs,s.size≤140737488355328) :
 Calls Tryz.prog 49 #[.agg (msgC m vt vb vp vd cb cp cv)] w fun e w'=>e=.returned (.int .i64 (msgF m))∧Below w.heap.size w w':=by
 obtain⟨⟨tA,tc,rfl⟩,⟨bA,bc,rfl⟩,⟨pA,pc,rfl⟩,⟨dA,dc,rfl⟩,⟨cA,cc,rfl⟩,⟨qA,qc,rfl⟩,⟨vA,vc,rfl⟩⟩:=r.forms;have Hs:=Lib.hid hs;clear hs;obtain⟨Q,hQ⟩:∃Q,Hid (msgF m=Q):=⟨_,rfl⟩;rw[hQ.out];cases ha:inB m.src 0 3
 ·have HQ:Hid (Q=2):=hQ.out.symm.trans (by simp[msgF,ha]);unfold msgC
  go_enter Tryz.func49,Tryz.ntmps49
  go_wp2_with (first|(go_at_call 62;refine(Za4 _ _).mono ?_;rintro e w' ⟨rfl,rfl⟩)|fail)
  go_ret;exact⟨Zaj HQ.out.symm,Zac _ _⟩
 cases hb:inB m.dst 0 3
 ·have HQ:Hid (Q=2):=hQ.out.symm.trans (by simp[msgF,ha,hb]);unfold msgC
  go_enter Tryz.func49,Tryz.ntmps49
  go_wp2_with (first|(go_at_call 62;refine(Za4 _ _).mono ?_;rintro e w' ⟨rfl,rfl⟩)|fail)
  go_ret;exact⟨Zaj HQ.out.symm,Zac _ _⟩
 obtain⟨E,hE⟩:∃E,Hid (Zd7 m=E):=⟨_,rfl⟩;obtain⟨X,hX⟩:∃X,Hid (Zk5 m=X):=⟨_,rfl⟩;have HQ:Hid (Q=if inB m.kind 1 5 then(if E≠0 then E else if X then 4 else 0)else 3):=hQ.out.symm.trans (by simp only[msgF,ha,hb,Bool.and_self,if_true];rw[hE.out,hX.out]);clear hQ;unfold msgC
 go_enter Tryz.func49,Tryz.ntmps49
 go_upto_region 1 with fail
 refine Zo fun W hbk hsz hbl=>?_
 have r1:=r.mono (Zaa hbl);have hz:=hbl.size;have hlt0:=hbk.lt;clear r hsz;have g0:=hbk.cell 0;have g1:=hbk.cell 1;have g2:=hbk.cell 2;simp at g0 g1 g2
 go_wp2_with (first|(go_at_call 62;refine(Za4 _ _).mono ?_;rintro e w' ⟨rfl,rfl⟩)|(refine wpList_load_row rfl 66 _ rfl _ rfl _ _ _ _ hbk Tryz.underlying66 rfl (by kernel_rfl) ?_)|(refine Zj 19 (Blk.new _ _ _) ?_))
 intro w2 hB2 hg2;have hb2:Below W.heap.size W w2:=Zab (Zac _ _) (Zau _ (Nat.le_refl _)) hg2 (by intro k e;injection e;omega);have hbl2:=hbl.trans (hb2.mono hz);have hbk2:=hbk.kept hb2;have r2:=r1.mono (Zaa hb2);have hz2:=hb2.size;have r1b:=r1;have hb2':=hb2;clear hg2 hb2 r1 hbk g0 g1 g2;have hq:=hbk2;have g2:=hq.cell 2;have g3:=hq.cell 3;have g4:=hq.cell 4;have g5:=hq.cell 5;have g6:=hq.cell 6;have g7:=hq.cell 7;have g8:=hq.cell 8;have g9:=hq.cell 9;have g10:=hq.cell 10;have g11:=hq.cell 11;have g12:=hq.cell 12;have g13:=hq.cell 13;have g14:=hq.cell 14;have g15:=hq.cell 15;have g16:=hq.cell 16;have g17:=hq.cell 17;have g18:=hq.cell 18;simp at g2 g3 g4 g5 g6 g7 g8 g9 g10 g11 g12 g13 g14 g15 g16 g17 g18;have r2g:RMsg (View.but w2.cell? (some W.heap.size)) m (.slice tA m.bat.txs.length tc) (.slice bA m.hdr.batches.length bc) (.slice pA m.hdr.parents.length pc) (.slice dA m.slt.digest.length dc) (.slice cA m.crt.hdr.batches.length cc) (.slice qA m.crt.hdr.parents.length qc) (.slice vA m.crt.voters.length vc):=r1b.mono (Zda hb2');have HQ:Hid (Q=if E≠0 then E else if X then 4 else 0):=by show _=_;rw[HQ.out,if_pos (by simp[inB,hk5])]
 have hR:Zjp m=⟨m.src,m.dst,5,m.bat,m.hdr,m.slt,m.crt,0⟩:=by unfold Zjp;simp[hk5]
 try rw[hk5]at g2
 go_wp2_with (refine Zai (n:=1) rfl rfl rfl rfl (by kernel_rfl) rfl hB2 (by simp) rfl ?_)
 intro w3 hB3 hg3;have hB3:Blk w3 W.heap.size 66 #[.int .i64 m.src,.int .i64 m.dst,.int .i64 5,.int .i64 m.bat.author,.int .i64 m.bat.number,.slice tA m.bat.txs.length tc,.int .i64 m.hdr.author,.int .i64 m.hdr.round,.slice bA m.hdr.batches.length bc,.slice pA m.hdr.parents.length pc,.int .i64 m.slt.author,.int .i64 m.slt.round,.slice dA m.slt.digest.length dc,.int .i64 m.crt.hdr.author,.int .i64 m.crt.hdr.round,.slice cA m.crt.hdr.batches.length cc,.slice qA m.crt.hdr.parents.length qc,.slice vA m.crt.voters.length vc,.int .i64 0]:=hB3;have hb3:Below W.heap.size w2 w3:=Zab (Below.refl _ _) hz2 hg3 (by intro k e;injection e;omega);have hbl4:Below w.heap.size w w3:=Zab hbl2 (by omega) hg3 (by intro k e;injection e;omega);have hbk3:=hbk2.below hb3 (by omega);have r3:=r2g.mono (Zbn hg3)
 have rR:RMsg w3.cell? (⟨m.src,m.dst,5,m.bat,m.hdr,m.slt,m.crt,0⟩:Msg) (.slice tA m.bat.txs.length tc) (.slice bA m.hdr.batches.length bc) (.slice pA m.hdr.parents.length pc) (.slice dA m.slt.digest.length dc) (.slice cA m.crt.hdr.batches.length cc) (.slice qA m.crt.hdr.parents.length qc) (.slice vA m.crt.voters.length vc):=by
  exact⟨r3.txs,r3.bats,r3.pars,r3.dig,r3.cbats,r3.cpars,r3.vots⟩
 clear hg3 hb3 g2 g3 g4 g5 g6 g7 g8 g9 g10 g11 g12 g13 g14 g15 g16 g17 g18;have g18r:=hbk3.cell 18;simp at g18r;have hNone:Zno ⟨m.src,m.dst,5,m.bat,m.hdr,m.slt,m.crt,0⟩= !X:=by rw[←hR,Zge m (by omega),hX.out]
 cases hr:inB m.round 1 1048576
 ·have HE:Hid (E=2):=hE.out.symm.trans (by simp[Zd7,hk5,hr]);have HQ':Hid (Q=2):=by show _=_;rw[HQ.out,HE.out];rfl
  go_wp2_with (first|(go_at_call 63;refine(count_any _ _).mono ?_;rintro e w' ⟨rfl,rfl⟩)|fail)
  go_ret;exact⟨Zaj HQ'.out.symm,hbl4⟩
 ·have HE:Hid (E=0):=hE.out.symm.trans (by simp[Zd7,hk5,hr]);have HQ':Hid (Q=if X then 4 else 0):=by show _=_;rw[HQ.out,HE.out];rfl
  go_wp2_with (first|(go_at_call 63;refine(count_any _ _).mono ?_;rintro e w' ⟨rfl,rfl⟩)|(refine wpList_load_row rfl 66 _ rfl _ rfl _ _ _ _ hB3 Tryz.underlying66 rfl (by kernel_rfl) ?_))
  refine(Zh7 ⟨m.src,m.dst,5,m.bat,m.hdr,m.slt,m.crt,0⟩ (.slice tA m.bat.txs.length tc) (.slice bA m.hdr.batches.length bc) (.slice pA m.hdr.parents.length pc) (.slice dA m.slt.digest.length dc) (.slice cA m.crt.hdr.batches.length cc) (.slice qA m.crt.hdr.parents.length qc) (.slice vA m.crt.voters.length vc) _ rR).mono ?_;rintro e w5 ⟨rfl,hb5⟩;rw[hNone];have hbl5:=hbl4.trans (hb5.mono hbl4.size);cases X
  ·go_wp2;go_ret;exact⟨Zaj (by rw[HQ'.out];rfl),hbl5⟩
  ·go_wp2;go_ret;exact⟨Zaj (by rw[HQ'.out];rfl),hbl5⟩
theorem Zd4(m:Msg)(vt vb vp vd cb cp cv:Value)(w:World)(r:RMsg w.cell? m vt vb vp vd cb cp cv)(hs:∀s∈m.bat.txs,s.size≤140737488355328) :
 Calls Tryz.prog 49 #[.agg (msgC m vt vb vp vd cb cp cv)] w fun e w'=>e=.returned (.int .i64 (msgF m))∧Below w.heap.size w w':=by
 by_cases hk:m.kind=1∨m.kind=2∨m.kind=3∨m.kind=4∨m.kind=5
 ·rcases hk with hk|hk|hk|hk|hk
  ·exact Zzx m hk _ _ _ _ _ _ _ w r hs
  ·exact Zzw m hk _ _ _ _ _ _ _ w r hs
  ·exact Zzv m hk _ _ _ _ _ _ _ w r hs
  ·exact Zzu m hk _ _ _ _ _ _ _ w r hs
  ·exact Zzt m hk _ _ _ _ _ _ _ w r hs
 ·exact Zzy m hk _ _ _ _ _ _ _ w r hs
def recF(m:Msg):Int:=if msgF m≠0 then msgF m else if m.src≠0∨m.dst≠0∨m.kind=5 then 4 else 0
theorem Zhw(m:Msg)(vt vb vp vd cb cp cv:Value)(w:World)(r:RMsg w.cell? m vt vb vp vd cb cp cv)(hs:∀s∈m.bat.txs,s.size≤140737488355328) :
 Calls Tryz.prog 187 #[.agg (msgC m vt vb vp vd cb cp cv)] w fun e w'=>e=.returned (.int .i64 (recF m))∧Below w.heap.size w w':=by
 obtain⟨Q,hQ⟩:∃Q,Hid (recF m=Q):=⟨_,rfl⟩;obtain⟨E,hE⟩:∃E,Hid (msgF m=E):=⟨_,rfl⟩;have HQ:Hid (Q=if E≠0 then E else if m.src≠0∨m.dst≠0∨m.kind=5 then 4 else 0):=by show _=_;rw[←hQ.out];unfold recF;rw[hE.out]
 rw[hQ.out];clear hQ;unfold msgC
 go_enter Tryz.func187,Tryz.ntmps187
 go_upto_region 1 with fail
 refine Zo fun W hbk hsz hbl=>?_
 have r1:=r.mono (Zaa hbl)
 go_wp2_with (refine wpList_load_row rfl 66 _ rfl _ rfl _ _ _ _ hbk Tryz.underlying66 rfl (by kernel_rfl) ?_)
 refine(Zd4 m _ _ _ _ _ _ _ _ r1 hs).mono ?_;rintro e w1 ⟨rfl,hb1⟩;rw[hE.out];have hbl1:=hbl.trans (hb1.mono hbl.size);have hq:=hbk.kept hb1;have g0:=hq.cell 0;have g1:=hq.cell 1;have g2:=hq.cell 2;simp at g0 g1 g2;clear r r1 hq hbk hsz hE;generalize m.src=a at *;generalize m.dst=b at *;generalize m.kind=c at *
 by_cases h0:E=0
 ·subst h0
  by_cases h1:a=0
  ·by_cases h2:b=0
   ·by_cases h3:c=5
    ·have H:Hid (Q=4):=by show _=_;rw[HQ.out];simp[h3]
     clear HQ;subst h1 h2 h3;go_wp2;go_ret;exact⟨Zaj H.out.symm,hbl1⟩
    ·have H:Hid (Q=0):=by show _=_;rw[HQ.out];simp[h1,h2,h3]
     clear HQ;subst h1 h2;go_wp2;go_ret;exact⟨Zaj H.out.symm,hbl1⟩
   ·have H:Hid (Q=4):=by show _=_;rw[HQ.out];simp[h2]
    clear HQ;subst h1;go_wp2;go_ret;exact⟨Zaj H.out.symm,hbl1⟩
  ·have H:Hid (Q=4):=by show _=_;rw[HQ.out];simp[h1]
   clear HQ;go_wp2;go_ret;exact⟨Zaj H.out.symm,hbl1⟩
 ·have H:Hid (Q=E):=by show _=_;rw[HQ.out,if_pos h0]
  clear HQ;go_wp2;go_ret;exact⟨Zaj H.out.symm,hbl1⟩
end Go.Proofs.YtinibgklgehdpaaGreatDoor
