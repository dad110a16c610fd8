/- A part of what the last text stands on. -/
import Derived.Test.YtbcpbnfojfiekaaGreatDoorK10
namespace Go.Proofs.YtbcpbnfojfiekaaGreatDoor
open Go.ChangeShapes Go.WideShapes Go.ChangeAt Go.RowKit Go.Proofs.Tryz Qa Qb Qc
set_option linter.all false
set_option maxHeartbeats 20000000
set_option maxRecDepth 100000
variable{w W:World}
theorem Zj6(a r:Int)(vb vp:Value)(b p:List (List UInt8))(w:World)(j:RDigs w.cell? vb b)(hp:RDigs w.cell? vp p) :
 Calls prog 111 #[.agg #[.int .i64 a,.int .i64 r,vb,vp]] w fun e w'=>e=.returned (.bool (Zef a r b p))∧Below w.heap.size w w':=by
 obtain⟨bA,bc,rfl,_⟩:=id j;obtain⟨pA,pc,rfl,_⟩:=id hp;have k:b.length*24≤140737488355328:=by obtain⟨A,c,_,_,_,h,_⟩:=j;exact h
 have g:p.length*24≤140737488355328:=by obtain⟨A,c,_,_,_,h,_⟩:=hp;exact h
 clear j hp
 have fin:∀x,(a=0∧r=0∧b.length=0∧p.length=0↔x=true)→Hid (Zef a r b p=x):=fun x h=>by
  show _=_;unfold Zef;cases x
  ·exact decide_eq_false (fun l=>absurd (h.1 l) (by simp))
  ·exact decide_eq_true (by simpa using h)
 generalize Zef a r b p=Z at fin⊢;generalize b.length=lb at fin k⊢;generalize p.length=lp at fin g⊢
 by_cases f:a=0
 ·by_cases i:r=0
  ·by_cases m:lb+lp=0
   ·have H:=fin true (by simp[*];omega);have d:(lb:Int)+lp=0:=by omega
    clear fin;subst f i;go_enter func111,ntmps111;go_wp2;go_ret
    exact⟨Zao (by rw[H.out];try simp[d]),by repeat(first
 |assumption
 |exact Zm _ _
 |refine Below.drew ?_
 |(refine Below.alloc ?_ ?sa _;(case sa=>first|omega|(simp;done)|(simp;omega)))
 |(refine Below.setCell ?_ ?sa _;(case sa=>first|(dsimp only;omega)|(simp;done)|(simp;omega))))⟩
   ·have H:=fin false (by simp[*];omega);have d:¬(lb:Int)+lp=0:=by omega
    clear fin;subst f i;go_enter func111,ntmps111;go_wp2;go_ret
    exact⟨Zao (by rw[H.out];try simp[d]),by repeat(first
 |assumption
 |exact Zm _ _
 |refine Below.drew ?_
 |(refine Below.alloc ?_ ?sa _;(case sa=>first|omega|(simp;done)|(simp;omega)))
 |(refine Below.setCell ?_ ?sa _;(case sa=>first|(dsimp only;omega)|(simp;done)|(simp;omega))))⟩
  ·have H:=fin false (by simp[*]);clear fin;subst f;go_enter func111,ntmps111;go_wp2;go_ret
   exact⟨Zao (by rw[H.out];try simp[i]),by repeat(first
 |assumption
 |exact Zm _ _
 |refine Below.drew ?_
 |(refine Below.alloc ?_ ?sa _;(case sa=>first|omega|(simp;done)|(simp;omega)))
 |(refine Below.setCell ?_ ?sa _;(case sa=>first|(dsimp only;omega)|(simp;done)|(simp;omega))))⟩
 ·have H:=fin false (by simp[*]);clear fin;go_enter func111,ntmps111;go_wp2;go_ret
  exact⟨Zao (by rw[H.out];try simp[f]),by repeat(first
 |assumption
 |exact Zm _ _
 |refine Below.drew ?_
 |(refine Below.alloc ?_ ?sa _;(case sa=>first|omega|(simp;done)|(simp;omega)))
 |(refine Below.setCell ?_ ?sa _;(case sa=>first|(dsimp only;omega)|(simp;done)|(simp;omega))))⟩
def Zoq(m:Msg):Bool:= !Zml m.bat&&Zef m.hdr.author m.hdr.round m.hdr.batches m.hdr.parents&& !Zla m.slt&& !Zl6 m.crt&&decide (m.round=0)
theorem Zio(m:Msg)(vt vb vp vd cb cp cv:Value)(w:World)(r:RMsg w.cell? m vt vb vp vd cb cp cv) :
 Calls prog 76 #[.agg (msgC m vt vb vp vd cb cp cv)] w fun e w'=>e=.returned (.bool (Zoq m))∧Below w.heap.size w w':=by
 obtain⟨⟨tA,tc,rfl⟩,⟨bA,bc,rfl⟩,⟨pA,pc,rfl⟩,⟨dA,dc,rfl⟩,⟨cA,cc,rfl⟩,⟨qA,qc,rfl⟩,⟨vA,vc,rfl⟩⟩:=r.forms;obtain⟨Q,x⟩:∃Q,Hid (Zoq m=Q):=⟨_,rfl⟩;obtain⟨N,hN⟩:∃B,Hid (Zef m.hdr.author m.hdr.round m.hdr.batches m.hdr.parents=B):=⟨_,rfl⟩;obtain⟨N2,j⟩:∃B,Hid (Zef m.crt.hdr.author m.crt.hdr.round m.crt.hdr.batches m.crt.hdr.parents=B):=⟨_,rfl⟩
 have b:Hid (Q=(!decide (m.bat.author≠0∨m.bat.number≠0∨0<m.bat.txs.length)&&N&& !decide (m.slt.author≠0∨m.slt.round≠0∨0<m.slt.digest.length)&& !(!N2||decide (0<m.crt.voters.length))&&decide (m.round=0))):=by
  show _=_;rw[←x.out,←hN.out,←j.out];rfl
 rw[x.out];clear x;unfold msgC;generalize m.bat.author=x1 at b⊢;generalize m.bat.number=x2 at b⊢;have u:=r.bats;have s:=r.pars;have t:=r.cbats;have q:=r.cpars;clear r;generalize m.bat.txs.length=x3 at b⊢;generalize m.slt.author=x4 at b⊢;generalize m.slt.round=x5 at b⊢;generalize m.slt.digest.length=x6 at b⊢;generalize m.crt.voters.length=x7 at b⊢;generalize m.round=x8 at b⊢
 by_cases l:x1=0
 rotate_left
 ·go_enter func76,ntmps76;go_wp2
  go_ret
  exact⟨Zao (by rw[b.out];simp[l]),by repeat(first
 |assumption
 |exact Zm _ _
 |refine Below.drew ?_
 |(refine Below.alloc ?_ ?sa _;(case sa=>first|omega|(simp;done)|(simp;omega)))
 |(refine Below.setCell ?_ ?sa _;(case sa=>first|(dsimp only;omega)|(simp;done)|(simp;omega))))⟩
 by_cases p:x2=0
 rotate_left
 ·subst l;go_enter func76,ntmps76;go_wp2;go_ret
  exact⟨Zao (by rw[b.out];simp[p]),by repeat(first
 |assumption
 |exact Zm _ _
 |refine Below.drew ?_
 |(refine Below.alloc ?_ ?sa _;(case sa=>first|omega|(simp;done)|(simp;omega)))
 |(refine Below.setCell ?_ ?sa _;(case sa=>first|(dsimp only;omega)|(simp;done)|(simp;omega))))⟩
 by_cases G:x3=0
 rotate_left
 ·have v:0<x3:=by omega
  subst l p;go_enter func76,ntmps76;go_wp2;go_ret
  exact⟨Zao (by rw[b.out];simp[v]),by repeat(first
 |assumption
 |exact Zm _ _
 |refine Below.drew ?_
 |(refine Below.alloc ?_ ?sa _;(case sa=>first|omega|(simp;done)|(simp;omega)))
 |(refine Below.setCell ?_ ?sa _;(case sa=>first|(dsimp only;omega)|(simp;done)|(simp;omega))))⟩
 subst l p G;go_enter func76,ntmps76;go_wp2_with fail;refine Za9 _ _ _ (fun W=>Calls prog _ _ W _) (fun W D C f=>?_);have A:=f.size;refine(Zj6 _ _ _ _ _ _ _ (u.mono Ze (Zaa f)) (s.mono Ze (Zaa f))).mono ?_;rintro e w1 ⟨rfl,k⟩;rw[hN.out];have a:=f.trans (k.mono A);have d:=D.kept k;have g10:=d.cell 10;have g11:=d.cell 11;have g12:=d.cell 12;have g13:=d.cell 13;have g14:=d.cell 14;have g15:=d.cell 15;have g16:=d.cell 16;have g17:=d.cell 17;have g18:=d.cell 18;simp at g10 g11 g12 g13 g14 g15 g16 g17 g18;cases N
 ·go_wp2;go_ret;exact⟨Zao (by rw[b.out];simp),a⟩
 by_cases n:x4=0
 rotate_left
 ·go_wp2;go_ret;exact⟨Zao (by rw[b.out];simp[n]),a⟩
 by_cases y:x5=0
 rotate_left
 ·subst n;go_wp2;go_ret;exact⟨Zao (by rw[b.out];simp[y]),a⟩
 by_cases F:x6=0
 rotate_left
 ·have o:0<x6:=by omega
  subst n y;go_wp2;go_ret;exact⟨Zao (by rw[b.out];simp[o]),a⟩
 subst n y F;go_wp2_with fail;refine(Zj6 _ _ _ _ _ _ _ (t.mono Ze (Zaa a)) (q.mono Ze (Zaa a))).mono ?_;rintro e w2 ⟨rfl,g⟩;rw[j.out];have c:=a.trans (g.mono a.size);have i:=d.kept g;clear g10 g11 g12 g13 g14 g15 g16 g17 g18;have g17:=i.cell 17;have g18:=i.cell 18;simp at g17 g18;cases N2
 ·go_wp2;go_ret;exact⟨Zao (by rw[b.out];simp),c⟩
 by_cases E:x7=0
 rotate_left
 ·have z:0<x7:=by omega
  go_wp2;go_ret;exact⟨Zao (by rw[b.out];simp[z]),c⟩
 subst E
 by_cases h:x8=0
 ·subst h;go_wp2;go_ret;exact⟨Zao (by rw[b.out];simp),c⟩
 ·go_wp2;go_ret;exact⟨Zao (by rw[b.out];simp[h]),c⟩
def Zke(m:Msg):Msg :=
 if m.kind=1 then {m with bat:=⟨0,0,[]⟩ } else if m.kind=2 then {m with hdr:=⟨0,0,[],[]⟩ } else if m.kind=3 then {m with slt:=⟨0,0,[]⟩ }
 else if m.kind=4 then {m with crt:=⟨⟨0,0,[],[]⟩,[]⟩ } else {m with round:=0 }
theorem Zgs(m:Msg)(h:m.kind=1∨m.kind=2∨m.kind=3∨m.kind=4∨m.kind=5):Zoq (Zke m)= !Zlz m:=by
 unfold Zoq Zlz Zke
 rcases h with h|h|h|h|h<;>simp[h,Zml,Zla,Zl6,Zef]<;>(try simp only[Bool.and_assoc])
theorem Zdc(a:Below w.heap.size w W):VLe w.cell? (View.but W.cell? (some w.heap.size)):=Zel a (Za _)
theorem check_0(m:Msg)(F:¬(m.kind=1∨m.kind=2∨m.kind=3∨m.kind=4∨m.kind=5))(vt vb vp vd cb cp cv:Value)(w:World)(r:RMsg w.cell? m vt vb vp vd cb cp cv)(t:∀s∈m.bat.txs,s.size≤140737488355328) :
 Calls prog 42 #[.agg (msgC m vt vb vp vd cb cp cv)] w fun e w'=>e=.returned (.int .i64 (msgF m))∧Below w.heap.size w w':=by
 obtain⟨⟨tA,tc,rfl⟩,⟨bA,bc,rfl⟩,⟨pA,pc,rfl⟩,⟨dA,dc,rfl⟩,⟨cA,cc,rfl⟩,⟨qA,qc,rfl⟩,⟨vA,vc,rfl⟩⟩:=r.forms;have G:=Zb t;clear t;obtain⟨Q,l⟩:∃Q,Hid (msgF m=Q):=⟨_,rfl⟩;rw[l.out];cases ha:inB m.src 0 3
 ·have n:Hid (Q=2):=l.out.symm.trans (by simp[msgF,ha]);unfold msgC;go_enter func42,ntmps42;go_wp2_with (first|(go_at_call 70;refine(Za5 _ _).mono ?_;rintro e w' ⟨rfl,rfl⟩)|fail);go_ret;exact⟨Zak n.out.symm,Zac _ _⟩
 cases hb:inB m.dst 0 3
 ·have n:Hid (Q=2):=l.out.symm.trans (by simp[msgF,ha,hb]);unfold msgC;go_enter func42,ntmps42;go_wp2_with (first|(go_at_call 70;refine(Za5 _ _).mono ?_;rintro e w' ⟨rfl,rfl⟩)|fail);go_ret;exact⟨Zak n.out.symm,Zac _ _⟩
 obtain⟨E,z⟩:∃E,Hid (Zea m=E):=⟨_,rfl⟩;obtain⟨X,v⟩:∃X,Hid (Zlz m=X):=⟨_,rfl⟩;have n:Hid (Q=if inB m.kind 1 5 then(if E≠0 then E else if X then 4 else 0)else 3):=l.out.symm.trans (by simp only[msgF,ha,hb,Bool.and_self,if_true];rw[z.out,v.out]);clear l;unfold msgC;go_enter func42,ntmps42;go_upto_region 1 with fail;refine Zo fun W b o d=>?_
 have r1:=r.mono (Zaa d);have u:=d.size;have q:=b.lt;clear r o;have g0:=b.cell 0;have g1:=b.cell 1;have g2:=b.cell 2;simp at g0 g1 g2;go_wp2_with (first|(go_at_call 70;refine(Za5 _ _).mono ?_;rintro e w' ⟨rfl,rfl⟩)|(refine wpList_load_row rfl 90 _ rfl _ rfl _ _ _ _ b underlying90 rfl (by kernel_rfl) ?_)|(refine Zj 19 (Blk.new _ _ _) ?_));intro w2 h g;have c:Below W.heap.size W w2:=Zab (Zac _ _) (Zar _ (Za _)) g (by intro k e;injection e;omega);have j:=d.trans (c.mono u);have i:=b.kept c;have r2:=r1.mono (Zaa c);have A:=c.size;have r1b:=r1;have f:=c;clear g c r1 b g0 g1 g2;have a:=i;have g2:=a.cell 2;have g3:=a.cell 3;have g4:=a.cell 4;have g5:=a.cell 5;have g6:=a.cell 6;have g7:=a.cell 7;have g8:=a.cell 8;have g9:=a.cell 9;have g10:=a.cell 10;have g11:=a.cell 11;have g12:=a.cell 12;have g13:=a.cell 13;have g14:=a.cell 14;have g15:=a.cell 15;have g16:=a.cell 16;have g17:=a.cell 17;have g18:=a.cell 18;simp at g2 g3 g4 g5 g6 g7 g8 g9 g10 g11 g12 g13 g14 g15 g16 g17 g18;have r2g:RMsg (View.but w2.cell? (some W.heap.size)) m (.slice tA m.bat.txs.length tc) (.slice bA m.hdr.batches.length bc) (.slice pA m.hdr.parents.length pc) (.slice dA m.slt.digest.length dc) (.slice cA m.crt.hdr.batches.length cc) (.slice qA m.crt.hdr.parents.length qc) (.slice vA m.crt.voters.length vc):=r1b.mono (Zdc f);have D:¬m.kind=1:=by omega
 have y:¬m.kind=2:=by omega
 have B:¬m.kind=3:=by omega
 have x:¬m.kind=4:=by omega
 have C:¬m.kind=5:=by omega
 have p:Hid (Q=3):=by show _=_;rw[n.out,if_neg (by simp[inB];omega)]
 go_wp2;go_ret;exact⟨Zak p.out.symm,j⟩
theorem check_1(m:Msg)(i:m.kind=1)(vt vb vp vd cb cp cv:Value)(w:World)(r:RMsg w.cell? m vt vb vp vd cb cp cv)(M:∀s∈m.bat.txs,s.size≤140737488355328) :
 Calls prog 42 #[.agg (msgC m vt vb vp vd cb cp cv)] w fun e w'=>e=.returned (.int .i64 (msgF m))∧Below w.heap.size w w':=by
 obtain⟨⟨tA,tc,rfl⟩,⟨bA,bc,rfl⟩,⟨pA,pc,rfl⟩,⟨dA,dc,rfl⟩,⟨cA,cc,rfl⟩,⟨qA,qc,rfl⟩,⟨vA,vc,rfl⟩⟩:=r.forms;have R:=Zb M;clear M;obtain⟨Q,C⟩:∃Q,Hid (msgF m=Q):=⟨_,rfl⟩;rw[C.out];cases ha:inB m.src 0 3
 ·have p:Hid (Q=2):=C.out.symm.trans (by simp[msgF,ha]);unfold msgC;go_enter func42,ntmps42;go_wp2_with (first|(go_at_call 70;refine(Za5 _ _).mono ?_;rintro e w' ⟨rfl,rfl⟩)|fail);go_ret;exact⟨Zak p.out.symm,Zac _ _⟩
 cases hb:inB m.dst 0 3
 ·have p:Hid (Q=2):=C.out.symm.trans (by simp[msgF,ha,hb]);unfold msgC;go_enter func42,ntmps42;go_wp2_with (first|(go_at_call 70;refine(Za5 _ _).mono ?_;rintro e w' ⟨rfl,rfl⟩)|fail);go_ret;exact⟨Zak p.out.symm,Zac _ _⟩
 obtain⟨E,L⟩:∃E,Hid (Zea m=E):=⟨_,rfl⟩;obtain⟨X,J⟩:∃X,Hid (Zlz m=X):=⟨_,rfl⟩;have p:Hid (Q=if inB m.kind 1 5 then(if E≠0 then E else if X then 4 else 0)else 3):=C.out.symm.trans (by simp only[msgF,ha,hb,Bool.and_self,if_true];rw[L.out,J.out]);clear C;unfold msgC;go_enter func42,ntmps42;go_upto_region 1 with fail;refine Zo fun W b D u=>?_
 have r1:=r.mono (Zaa u);have N:=u.size;have K:=b.lt;clear r D;have g0:=b.cell 0;have g1:=b.cell 1;have g2:=b.cell 2;simp at g0 g1 g2;go_wp2_with (first|(go_at_call 70;refine(Za5 _ _).mono ?_;rintro e w' ⟨rfl,rfl⟩)|(refine wpList_load_row rfl 90 _ rfl _ rfl _ _ _ _ b underlying90 rfl (by kernel_rfl) ?_)|(refine Zj 19 (Blk.new _ _ _) ?_));intro w2 F h;have c:Below W.heap.size W w2:=Zab (Zac _ _) (Zar _ (Za _)) h (by intro k e;injection e;omega);have B:=u.trans (c.mono N);have j:=b.kept c;have r2:=r1.mono (Zaa c);have G:=c.size;have r1b:=r1;have y:=c;clear h c r1 b g0 g1 g2;have a:=j;have g2:=a.cell 2;have g3:=a.cell 3;have g4:=a.cell 4;have g5:=a.cell 5;have g6:=a.cell 6;have g7:=a.cell 7;have g8:=a.cell 8;have g9:=a.cell 9;have g10:=a.cell 10;have g11:=a.cell 11;have g12:=a.cell 12;have g13:=a.cell 13;have g14:=a.cell 14;have g15:=a.cell 15;have g16:=a.cell 16;have g17:=a.cell 17;have g18:=a.cell 18;simp at g2 g3 g4 g5 g6 g7 g8 g9 g10 g11 g12 g13 g14 g15 g16 g17 g18;have r2g:RMsg (View.but w2.cell? (some W.heap.size)) m (.slice tA m.bat.txs.length tc) (.slice bA m.hdr.batches.length bc) (.slice pA m.hdr.parents.length pc) (.slice dA m.slt.digest.length dc) (.slice cA m.crt.hdr.batches.length cc) (.slice qA m.crt.hdr.parents.length qc) (.slice vA m.crt.voters.length vc):=r1b.mono (Zdc y);have O:Hid (E=Zcs m.bat.author m.bat.number m.bat.txs):=L.out.symm.trans (by simp[Zea,i]);have p:Hid (Q=if E≠0 then E else if X then 4 else 0):=by show _=_;rw[p.out,if_pos (by simp[inB,i])]
 have P:Zke m=⟨m.src,m.dst,1,⟨0,0,[]⟩,m.hdr,m.slt,m.crt,m.round⟩:=by unfold Zke;simp[i]
 try rw[i]at g2
 go_wp2_with (refine Zaj (n:=3) rfl rfl rfl rfl (by kernel_rfl) rfl F (by simp) rfl ?_);intro w3 t g
 have t:Blk w3 W.heap.size 90 #[.int .i64 m.src,.int .i64 m.dst,.int .i64 1,.int .i64 0,.int .i64 0,.slice none 0 0,.int .i64 m.hdr.author,.int .i64 m.hdr.round,.slice bA m.hdr.batches.length bc,.slice pA m.hdr.parents.length pc,.int .i64 m.slt.author,.int .i64 m.slt.round,.slice dA m.slt.digest.length dc,.int .i64 m.crt.hdr.author,.int .i64 m.crt.hdr.round,.slice cA m.crt.hdr.batches.length cc,.slice qA m.crt.hdr.parents.length qc,.slice vA m.crt.voters.length vc,.int .i64 m.round]:=t;have x:Below W.heap.size w2 w3:=Zab (Zm _ _) G g (by intro k e;injection e;omega);have o:Below w.heap.size w w3:=Zab B (by omega) g (by intro k e;injection e;omega);have z:=j.below x (by omega);have r3:=r2g.mono (Zbn g);have S:=x.size;clear g x g2 g3 g4 g5 g6 g7 g8 g9 g10 g11 g12 g13 g14 g15 g16 g17 g18;have a:=z;have g2:=a.cell 2;have g3:=a.cell 3;have g4:=a.cell 4;have g5:=a.cell 5;have g6:=a.cell 6;have g7:=a.cell 7;have g8:=a.cell 8;have g9:=a.cell 9;have g10:=a.cell 10;have g11:=a.cell 11;have g12:=a.cell 12;have g13:=a.cell 13;have g14:=a.cell 14;have g15:=a.cell 15;have g16:=a.cell 16;have g17:=a.cell 17;have g18:=a.cell 18;simp at g2 g3 g4 g5 g6 g7 g8 g9 g10 g11 g12 g13 g14 g15 g16 g17 g18;go_wp2_with fail;refine(Zht _ _ _ _ _ r3.txs R.out).mono ?_;rintro e w4 ⟨rfl,v⟩;rw[←O.out];have d:=o.trans (v.mono o.size);have H:=t.kept v;have r4:=r3.mono (Zaa v)
 have rR:RMsg w4.cell? (⟨m.src,m.dst,1,⟨0,0,[]⟩,m.hdr,m.slt,m.crt,m.round⟩:Msg) (.slice none 0 0) (.slice bA m.hdr.batches.length bc) (.slice pA m.hdr.parents.length pc) (.slice dA m.slt.digest.length dc) (.slice cA m.crt.hdr.batches.length cc) (.slice qA m.crt.hdr.parents.length qc) (.slice vA m.crt.voters.length vc):=by
  exact⟨RVec.nil _ _ _,r4.bats,r4.pars,r4.dig,r4.cbats,r4.cpars,r4.vots⟩
 by_cases A:E=0
 ·subst A;have f:Hid (Q=if X then 4 else 0):=by show _=_;rw[p.out];rfl
  have q:Zoq ⟨m.src,m.dst,1,⟨0,0,[]⟩,m.hdr,m.slt,m.crt,m.round⟩= !X:=by rw[←P,Zgs m (by omega),J.out]
  go_wp2_with (refine wpList_load_row rfl 90 _ rfl _ rfl _ _ _ _ H underlying90 rfl (by kernel_rfl) ?_);refine(Zio ⟨m.src,m.dst,1,⟨0,0,[]⟩,m.hdr,m.slt,m.crt,m.round⟩ (.slice none 0 0) (.slice bA m.hdr.batches.length bc) (.slice pA m.hdr.parents.length pc) (.slice dA m.slt.digest.length dc) (.slice cA m.crt.hdr.batches.length cc) (.slice qA m.crt.hdr.parents.length qc) (.slice vA m.crt.voters.length vc) _ rR).mono ?_
  rintro e w5 ⟨rfl,I⟩;rw[q];have l:=d.trans (I.mono d.size);cases X
  ·go_wp2;go_ret;exact⟨Zak (by rw[f.out];rfl),l⟩
  ·go_wp2;go_ret;exact⟨Zak (by rw[f.out];rfl),l⟩
 ·have f:Hid (Q=E):=by show _=_;rw[p.out,if_pos A]
  go_wp2;go_ret;exact⟨Zak f.out.symm,d⟩
theorem check_2(m:Msg)(f:m.kind=2)(vt vb vp vd cb cp cv:Value)(w:World)(r:RMsg w.cell? m vt vb vp vd cb cp cv)(M:∀s∈m.bat.txs,s.size≤140737488355328) :
 Calls prog 42 #[.agg (msgC m vt vb vp vd cb cp cv)] w fun e w'=>e=.returned (.int .i64 (msgF m))∧Below w.heap.size w w':=by
 obtain⟨⟨tA,tc,rfl⟩,⟨bA,bc,rfl⟩,⟨pA,pc,rfl⟩,⟨dA,dc,rfl⟩,⟨cA,cc,rfl⟩,⟨qA,qc,rfl⟩,⟨vA,vc,rfl⟩⟩:=r.forms;have S:=Zb M;clear M;obtain⟨Q,C⟩:∃Q,Hid (msgF m=Q):=⟨_,rfl⟩;rw[C.out];cases ha:inB m.src 0 3
 ·have p:Hid (Q=2):=C.out.symm.trans (by simp[msgF,ha]);unfold msgC;go_enter func42,ntmps42;go_wp2_with (first|(go_at_call 70;refine(Za5 _ _).mono ?_;rintro e w' ⟨rfl,rfl⟩)|fail);go_ret;exact⟨Zak p.out.symm,Zac _ _⟩
 cases hb:inB m.dst 0 3
 ·have p:Hid (Q=2):=C.out.symm.trans (by simp[msgF,ha,hb]);unfold msgC;go_enter func42,ntmps42;go_wp2_with (first|(go_at_call 70;refine(Za5 _ _).mono ?_;rintro e w' ⟨rfl,rfl⟩)|fail);go_ret;exact⟨Zak p.out.symm,Zac _ _⟩
 obtain⟨E,L⟩:∃E,Hid (Zea m=E):=⟨_,rfl⟩;obtain⟨X,J⟩:∃X,Hid (Zlz m=X):=⟨_,rfl⟩;have p:Hid (Q=if inB m.kind 1 5 then(if E≠0 then E else if X then 4 else 0)else 3):=C.out.symm.trans (by simp only[msgF,ha,hb,Bool.and_self,if_true];rw[L.out,J.out]);clear C;unfold msgC;go_enter func42,ntmps42;go_upto_region 1 with fail;refine Zo fun W b D u=>?_
 have r1:=r.mono (Zaa u);have N:=u.size;have K:=b.lt;clear r D;have g0:=b.cell 0;have g1:=b.cell 1;have g2:=b.cell 2;simp at g0 g1 g2;go_wp2_with (first|(go_at_call 70;refine(Za5 _ _).mono ?_;rintro e w' ⟨rfl,rfl⟩)|(refine wpList_load_row rfl 90 _ rfl _ rfl _ _ _ _ b underlying90 rfl (by kernel_rfl) ?_)|(refine Zj 19 (Blk.new _ _ _) ?_));intro w2 F h;have c:Below W.heap.size W w2:=Zab (Zac _ _) (Zar _ (Za _)) h (by intro k e;injection e;omega);have B:=u.trans (c.mono N);have j:=b.kept c;have r2:=r1.mono (Zaa c);have G:=c.size;have r1b:=r1;have y:=c;clear h c r1 b g0 g1 g2;have a:=j;have g2:=a.cell 2;have g3:=a.cell 3;have g4:=a.cell 4;have g5:=a.cell 5;have g6:=a.cell 6;have g7:=a.cell 7;have g8:=a.cell 8;have g9:=a.cell 9;have g10:=a.cell 10;have g11:=a.cell 11;have g12:=a.cell 12;have g13:=a.cell 13;have g14:=a.cell 14;have g15:=a.cell 15;have g16:=a.cell 16;have g17:=a.cell 17;have g18:=a.cell 18;simp at g2 g3 g4 g5 g6 g7 g8 g9 g10 g11 g12 g13 g14 g15 g16 g17 g18;have r2g:RMsg (View.but w2.cell? (some W.heap.size)) m (.slice tA m.bat.txs.length tc) (.slice bA m.hdr.batches.length bc) (.slice pA m.hdr.parents.length pc) (.slice dA m.slt.digest.length dc) (.slice cA m.crt.hdr.batches.length cc) (.slice qA m.crt.hdr.parents.length qc) (.slice vA m.crt.voters.length vc):=r1b.mono (Zdc y);have O:Hid (E=Zb5 m.hdr.author m.hdr.round m.hdr.batches m.hdr.parents):=L.out.symm.trans (by simp[Zea,f]);have p:Hid (Q=if E≠0 then E else if X then 4 else 0):=by show _=_;rw[p.out,if_pos (by simp[inB,f])]
 have P:Zke m=⟨m.src,m.dst,2,m.bat,⟨0,0,[],[]⟩,m.slt,m.crt,m.round⟩:=by unfold Zke;simp[f]
 try rw[f]at g2
 go_wp2_with (refine Zaj (n:=4) rfl rfl rfl rfl (by kernel_rfl) rfl F (by simp) rfl ?_);intro w3 t i
 have t:Blk w3 W.heap.size 90 #[.int .i64 m.src,.int .i64 m.dst,.int .i64 2,.int .i64 m.bat.author,.int .i64 m.bat.number,.slice tA m.bat.txs.length tc,.int .i64 0,.int .i64 0,.slice none 0 0,.slice none 0 0,.int .i64 m.slt.author,.int .i64 m.slt.round,.slice dA m.slt.digest.length dc,.int .i64 m.crt.hdr.author,.int .i64 m.crt.hdr.round,.slice cA m.crt.hdr.batches.length cc,.slice qA m.crt.hdr.parents.length qc,.slice vA m.crt.voters.length vc,.int .i64 m.round]:=t;have x:Below W.heap.size w2 w3:=Zab (Zm _ _) G i (by intro k e;injection e;omega);have o:Below w.heap.size w w3:=Zab B (by omega) i (by intro k e;injection e;omega);have z:=j.below x (by omega);have r3:=r2g.mono (Zbn i);have R:=x.size;clear i x g2 g3 g4 g5 g6 g7 g8 g9 g10 g11 g12 g13 g14 g15 g16 g17 g18;have a:=z;have g2:=a.cell 2;have g3:=a.cell 3;have g4:=a.cell 4;have g5:=a.cell 5;have g6:=a.cell 6;have g7:=a.cell 7;have g8:=a.cell 8;have g9:=a.cell 9;have g10:=a.cell 10;have g11:=a.cell 11;have g12:=a.cell 12;have g13:=a.cell 13;have g14:=a.cell 14;have g15:=a.cell 15;have g16:=a.cell 16;have g17:=a.cell 17;have g18:=a.cell 18;simp at g2 g3 g4 g5 g6 g7 g8 g9 g10 g11 g12 g13 g14 g15 g16 g17 g18;go_wp2_with fail;refine(Zdr _ _ _ _ _ _ _ r3.bats r3.pars).mono ?_;rintro e w4 ⟨rfl,v⟩;rw[←O.out];have d:=o.trans (v.mono o.size);have H:=t.kept v;have r4:=r3.mono (Zaa v)
 have rR:RMsg w4.cell? (⟨m.src,m.dst,2,m.bat,⟨0,0,[],[]⟩,m.slt,m.crt,m.round⟩:Msg) (.slice tA m.bat.txs.length tc) (.slice none 0 0) (.slice none 0 0) (.slice dA m.slt.digest.length dc) (.slice cA m.crt.hdr.batches.length cc) (.slice qA m.crt.hdr.parents.length qc) (.slice vA m.crt.voters.length vc):=by
  exact⟨r4.txs,RSl.nil _ _ _ _,RSl.nil _ _ _ _,r4.dig,r4.cbats,r4.cpars,r4.vots⟩
 by_cases A:E=0
 ·subst A;have g:Hid (Q=if X then 4 else 0):=by show _=_;rw[p.out];rfl
  have q:Zoq ⟨m.src,m.dst,2,m.bat,⟨0,0,[],[]⟩,m.slt,m.crt,m.round⟩= !X:=by rw[←P,Zgs m (by omega),J.out]
  go_wp2_with (refine wpList_load_row rfl 90 _ rfl _ rfl _ _ _ _ H underlying90 rfl (by kernel_rfl) ?_);refine(Zio ⟨m.src,m.dst,2,m.bat,⟨0,0,[],[]⟩,m.slt,m.crt,m.round⟩ (.slice tA m.bat.txs.length tc) (.slice none 0 0) (.slice none 0 0) (.slice dA m.slt.digest.length dc) (.slice cA m.crt.hdr.batches.length cc) (.slice qA m.crt.hdr.parents.length qc) (.slice vA m.crt.voters.length vc) _ rR).mono ?_
  rintro e w5 ⟨rfl,I⟩;rw[q];have l:=d.trans (I.mono d.size);cases X
  ·go_wp2;go_ret;exact⟨Zak (by rw[g.out];rfl),l⟩
  ·go_wp2;go_ret;exact⟨Zak (by rw[g.out];rfl),l⟩
 ·have g:Hid (Q=E):=by show _=_;rw[p.out,if_pos A]
  go_wp2;go_ret;exact⟨Zak g.out.symm,d⟩
theorem check_3(m:Msg)(g:m.kind=3)(vt vb vp vd cb cp cv:Value)(w:World)(r:RMsg w.cell? m vt vb vp vd cb cp cv)(M:∀s∈m.bat.txs,s.size≤140737488355328) :
 Calls prog 42 #[.agg (msgC m vt vb vp vd cb cp cv)] w fun e w'=>e=.returned (.int .i64 (msgF m))∧Below w.heap.size w w':=by
 obtain⟨⟨tA,tc,rfl⟩,⟨bA,bc,rfl⟩,⟨pA,pc,rfl⟩,⟨dA,dc,rfl⟩,⟨cA,cc,rfl⟩,⟨qA,qc,rfl⟩,⟨vA,vc,rfl⟩⟩:=r.forms;have S:=Zb M;clear M;obtain⟨Q,C⟩:∃Q,Hid (msgF m=Q):=⟨_,rfl⟩;rw[C.out];cases ha:inB m.src 0 3
 ·have p:Hid (Q=2):=C.out.symm.trans (by simp[msgF,ha]);unfold msgC;go_enter func42,ntmps42;go_wp2_with (first|(go_at_call 70;refine(Za5 _ _).mono ?_;rintro e w' ⟨rfl,rfl⟩)|fail);go_ret;exact⟨Zak p.out.symm,Zac _ _⟩
 cases hb:inB m.dst 0 3
 ·have p:Hid (Q=2):=C.out.symm.trans (by simp[msgF,ha,hb]);unfold msgC;go_enter func42,ntmps42;go_wp2_with (first|(go_at_call 70;refine(Za5 _ _).mono ?_;rintro e w' ⟨rfl,rfl⟩)|fail);go_ret;exact⟨Zak p.out.symm,Zac _ _⟩
 obtain⟨E,L⟩:∃E,Hid (Zea m=E):=⟨_,rfl⟩;obtain⟨X,J⟩:∃X,Hid (Zlz m=X):=⟨_,rfl⟩;have p:Hid (Q=if inB m.kind 1 5 then(if E≠0 then E else if X then 4 else 0)else 3):=C.out.symm.trans (by simp only[msgF,ha,hb,Bool.and_self,if_true];rw[L.out,J.out]);clear C;unfold msgC;go_enter func42,ntmps42;go_upto_region 1 with fail;refine Zo fun W b D u=>?_
 have r1:=r.mono (Zaa u);have N:=u.size;have K:=b.lt;clear r D;have g0:=b.cell 0;have g1:=b.cell 1;have g2:=b.cell 2;simp at g0 g1 g2;go_wp2_with (first|(go_at_call 70;refine(Za5 _ _).mono ?_;rintro e w' ⟨rfl,rfl⟩)|(refine wpList_load_row rfl 90 _ rfl _ rfl _ _ _ _ b underlying90 rfl (by kernel_rfl) ?_)|(refine Zj 19 (Blk.new _ _ _) ?_));intro w2 F h;have c:Below W.heap.size W w2:=Zab (Zac _ _) (Zar _ (Za _)) h (by intro k e;injection e;omega);have B:=u.trans (c.mono N);have j:=b.kept c;have r2:=r1.mono (Zaa c);have G:=c.size;have r1b:=r1;have y:=c;clear h c r1 b g0 g1 g2;have a:=j;have g2:=a.cell 2;have g3:=a.cell 3;have g4:=a.cell 4;have g5:=a.cell 5;have g6:=a.cell 6;have g7:=a.cell 7;have g8:=a.cell 8;have g9:=a.cell 9;have g10:=a.cell 10;have g11:=a.cell 11;have g12:=a.cell 12;have g13:=a.cell 13;have g14:=a.cell 14;have g15:=a.cell 15;have g16:=a.cell 16;have g17:=a.cell 17;have g18:=a.cell 18;simp at g2 g3 g4 g5 g6 g7 g8 g9 g10 g11 g12 g13 g14 g15 g16 g17 g18;have r2g:RMsg (View.but w2.cell? (some W.heap.size)) m (.slice tA m.bat.txs.length tc) (.slice bA m.hdr.batches.length bc) (.slice pA m.hdr.parents.length pc) (.slice dA m.slt.digest.length dc) (.slice cA m.crt.hdr.batches.length cc) (.slice qA m.crt.hdr.parents.length qc) (.slice vA m.crt.voters.length vc):=r1b.mono (Zdc y);have O:Hid (E=Zgm m.slt.author m.slt.round m.slt.digest.length):=L.out.symm.trans (by simp[Zea,g]);have p:Hid (Q=if E≠0 then E else if X then 4 else 0):=by show _=_;rw[p.out,if_pos (by simp[inB,g])]
 have P:Zke m=⟨m.src,m.dst,3,m.bat,m.hdr,⟨0,0,[]⟩,m.crt,m.round⟩:=by unfold Zke;simp[g]
 try rw[g]at g2
 go_wp2_with (refine Zaj (n:=3) rfl rfl rfl rfl (by kernel_rfl) rfl F (by simp) rfl ?_);intro w3 t i
 have t:Blk w3 W.heap.size 90 #[.int .i64 m.src,.int .i64 m.dst,.int .i64 3,.int .i64 m.bat.author,.int .i64 m.bat.number,.slice tA m.bat.txs.length tc,.int .i64 m.hdr.author,.int .i64 m.hdr.round,.slice bA m.hdr.batches.length bc,.slice pA m.hdr.parents.length pc,.int .i64 0,.int .i64 0,.slice none 0 0,.int .i64 m.crt.hdr.author,.int .i64 m.crt.hdr.round,.slice cA m.crt.hdr.batches.length cc,.slice qA m.crt.hdr.parents.length qc,.slice vA m.crt.voters.length vc,.int .i64 m.round]:=t;have x:Below W.heap.size w2 w3:=Zab (Zm _ _) G i (by intro k e;injection e;omega);have o:Below w.heap.size w w3:=Zab B (by omega) i (by intro k e;injection e;omega);have z:=j.below x (by omega);have r3:=r2g.mono (Zbn i);have R:=x.size;clear i x g2 g3 g4 g5 g6 g7 g8 g9 g10 g11 g12 g13 g14 g15 g16 g17 g18;have a:=z;have g2:=a.cell 2;have g3:=a.cell 3;have g4:=a.cell 4;have g5:=a.cell 5;have g6:=a.cell 6;have g7:=a.cell 7;have g8:=a.cell 8;have g9:=a.cell 9;have g10:=a.cell 10;have g11:=a.cell 11;have g12:=a.cell 12;have g13:=a.cell 13;have g14:=a.cell 14;have g15:=a.cell 15;have g16:=a.cell 16;have g17:=a.cell 17;have g18:=a.cell 18;simp at g2 g3 g4 g5 g6 g7 g8 g9 g10 g11 g12 g13 g14 g15 g16 g17 g18;go_wp2_with fail;refine(Zem _ _ _ _ _ _).mono ?_;rintro e w4 ⟨rfl,v⟩;rw[←O.out];have d:=o.trans (v.mono o.size);have H:=t.kept v;have r4:=r3.mono (Zaa v)
 have rR:RMsg w4.cell? (⟨m.src,m.dst,3,m.bat,m.hdr,⟨0,0,[]⟩,m.crt,m.round⟩:Msg) (.slice tA m.bat.txs.length tc) (.slice bA m.hdr.batches.length bc) (.slice pA m.hdr.parents.length pc) (.slice none 0 0) (.slice cA m.crt.hdr.batches.length cc) (.slice qA m.crt.hdr.parents.length qc) (.slice vA m.crt.voters.length vc):=by
  exact⟨r4.txs,r4.bats,r4.pars,RVec.nil _ _ _,r4.cbats,r4.cpars,r4.vots⟩
 by_cases A:E=0
 ·subst A;have f:Hid (Q=if X then 4 else 0):=by show _=_;rw[p.out];rfl
  have q:Zoq ⟨m.src,m.dst,3,m.bat,m.hdr,⟨0,0,[]⟩,m.crt,m.round⟩= !X:=by rw[←P,Zgs m (by omega),J.out]
  go_wp2_with (refine wpList_load_row rfl 90 _ rfl _ rfl _ _ _ _ H underlying90 rfl (by kernel_rfl) ?_);refine(Zio ⟨m.src,m.dst,3,m.bat,m.hdr,⟨0,0,[]⟩,m.crt,m.round⟩ (.slice tA m.bat.txs.length tc) (.slice bA m.hdr.batches.length bc) (.slice pA m.hdr.parents.length pc) (.slice none 0 0) (.slice cA m.crt.hdr.batches.length cc) (.slice qA m.crt.hdr.parents.length qc) (.slice vA m.crt.voters.length vc) _ rR).mono ?_
  rintro e w5 ⟨rfl,I⟩;rw[q];have l:=d.trans (I.mono d.size);cases X
  ·go_wp2;go_ret;exact⟨Zak (by rw[f.out];rfl),l⟩
  ·go_wp2;go_ret;exact⟨Zak (by rw[f.out];rfl),l⟩
 ·have f:Hid (Q=E):=by show _=_;rw[p.out,if_pos A]
  go_wp2;go_ret;exact⟨Zak f.out.symm,d⟩
theorem check_4(m:Msg)(f:m.kind=4)(vt vb vp vd cb cp cv:Value)(w:World)(r:RMsg w.cell? m vt vb vp vd cb cp cv)(M:∀s∈m.bat.txs,s.size≤140737488355328) :
 Calls prog 42 #[.agg (msgC m vt vb vp vd cb cp cv)] w fun e w'=>e=.returned (.int .i64 (msgF m))∧Below w.heap.size w w':=by
 obtain⟨⟨tA,tc,rfl⟩,⟨bA,bc,rfl⟩,⟨pA,pc,rfl⟩,⟨dA,dc,rfl⟩,⟨cA,cc,rfl⟩,⟨qA,qc,rfl⟩,⟨vA,vc,rfl⟩⟩:=r.forms;have S:=Zb M;clear M;obtain⟨Q,C⟩:∃Q,Hid (msgF m=Q):=⟨_,rfl⟩;rw[C.out];cases ha:inB m.src 0 3
 ·have p:Hid (Q=2):=C.out.symm.trans (by simp[msgF,ha]);unfold msgC;go_enter func42,ntmps42;go_wp2_with (first|(go_at_call 70;refine(Za5 _ _).mono ?_;rintro e w' ⟨rfl,rfl⟩)|fail);go_ret;exact⟨Zak p.out.symm,Zac _ _⟩
 cases hb:inB m.dst 0 3
 ·have p:Hid (Q=2):=C.out.symm.trans (by simp[msgF,ha,hb]);unfold msgC;go_enter func42,ntmps42;go_wp2_with (first|(go_at_call 70;refine(Za5 _ _).mono ?_;rintro e w' ⟨rfl,rfl⟩)|fail);go_ret;exact⟨Zak p.out.symm,Zac _ _⟩
 obtain⟨E,L⟩:∃E,Hid (Zea m=E):=⟨_,rfl⟩;obtain⟨X,J⟩:∃X,Hid (Zlz m=X):=⟨_,rfl⟩;have p:Hid (Q=if inB m.kind 1 5 then(if E≠0 then E else if X then 4 else 0)else 3):=C.out.symm.trans (by simp only[msgF,ha,hb,Bool.and_self,if_true];rw[L.out,J.out]);clear C;unfold msgC;go_enter func42,ntmps42;go_upto_region 1 with fail;refine Zo fun W b D u=>?_
 have r1:=r.mono (Zaa u);have N:=u.size;have K:=b.lt;clear r D;have g0:=b.cell 0;have g1:=b.cell 1;have g2:=b.cell 2;simp at g0 g1 g2;go_wp2_with (first|(go_at_call 70;refine(Za5 _ _).mono ?_;rintro e w' ⟨rfl,rfl⟩)|(refine wpList_load_row rfl 90 _ rfl _ rfl _ _ _ _ b underlying90 rfl (by kernel_rfl) ?_)|(refine Zj 19 (Blk.new _ _ _) ?_));intro w2 F h;have c:Below W.heap.size W w2:=Zab (Zac _ _) (Zar _ (Za _)) h (by intro k e;injection e;omega);have B:=u.trans (c.mono N);have j:=b.kept c;have r2:=r1.mono (Zaa c);have G:=c.size;have r1b:=r1;have y:=c;clear h c r1 b g0 g1 g2;have a:=j;have g2:=a.cell 2;have g3:=a.cell 3;have g4:=a.cell 4;have g5:=a.cell 5;have g6:=a.cell 6;have g7:=a.cell 7;have g8:=a.cell 8;have g9:=a.cell 9;have g10:=a.cell 10;have g11:=a.cell 11;have g12:=a.cell 12;have g13:=a.cell 13;have g14:=a.cell 14;have g15:=a.cell 15;have g16:=a.cell 16;have g17:=a.cell 17;have g18:=a.cell 18;simp at g2 g3 g4 g5 g6 g7 g8 g9 g10 g11 g12 g13 g14 g15 g16 g17 g18;have r2g:RMsg (View.but w2.cell? (some W.heap.size)) m (.slice tA m.bat.txs.length tc) (.slice bA m.hdr.batches.length bc) (.slice pA m.hdr.parents.length pc) (.slice dA m.slt.digest.length dc) (.slice cA m.crt.hdr.batches.length cc) (.slice qA m.crt.hdr.parents.length qc) (.slice vA m.crt.voters.length vc):=r1b.mono (Zdc y);have O:Hid (E=Zhk m.crt.hdr.author m.crt.hdr.round m.crt.hdr.batches m.crt.hdr.parents m.crt.voters):=L.out.symm.trans (by simp[Zea,f]);have p:Hid (Q=if E≠0 then E else if X then 4 else 0):=by show _=_;rw[p.out,if_pos (by simp[inB,f])]
 have P:Zke m=⟨m.src,m.dst,4,m.bat,m.hdr,m.slt,⟨⟨0,0,[],[]⟩,[]⟩,m.round⟩:=by unfold Zke;simp[f]
 try rw[f]at g2
 go_wp2_with (refine Zaj (n:=5) rfl rfl rfl rfl (by kernel_rfl) rfl F (by simp) rfl ?_);intro w3 t i
 have t:Blk w3 W.heap.size 90 #[.int .i64 m.src,.int .i64 m.dst,.int .i64 4,.int .i64 m.bat.author,.int .i64 m.bat.number,.slice tA m.bat.txs.length tc,.int .i64 m.hdr.author,.int .i64 m.hdr.round,.slice bA m.hdr.batches.length bc,.slice pA m.hdr.parents.length pc,.int .i64 m.slt.author,.int .i64 m.slt.round,.slice dA m.slt.digest.length dc,.int .i64 0,.int .i64 0,.slice none 0 0,.slice none 0 0,.slice none 0 0,.int .i64 m.round]:=t;have x:Below W.heap.size w2 w3:=Zab (Zm _ _) G i (by intro k e;injection e;omega);have o:Below w.heap.size w w3:=Zab B (by omega) i (by intro k e;injection e;omega);have z:=j.below x (by omega);have r3:=r2g.mono (Zbn i);have R:=x.size;clear i x g2 g3 g4 g5 g6 g7 g8 g9 g10 g11 g12 g13 g14 g15 g16 g17 g18;have a:=z;have g2:=a.cell 2;have g3:=a.cell 3;have g4:=a.cell 4;have g5:=a.cell 5;have g6:=a.cell 6;have g7:=a.cell 7;have g8:=a.cell 8;have g9:=a.cell 9;have g10:=a.cell 10;have g11:=a.cell 11;have g12:=a.cell 12;have g13:=a.cell 13;have g14:=a.cell 14;have g15:=a.cell 15;have g16:=a.cell 16;have g17:=a.cell 17;have g18:=a.cell 18;simp at g2 g3 g4 g5 g6 g7 g8 g9 g10 g11 g12 g13 g14 g15 g16 g17 g18;go_wp2_with fail;refine(Zen _ _ _ _ _ _ _ _ _ r3.cbats r3.cpars r3.vots).mono ?_;rintro e w4 ⟨rfl,v⟩;rw[←O.out];have d:=o.trans (v.mono o.size);have H:=t.kept v;have r4:=r3.mono (Zaa v)
 have rR:RMsg w4.cell? (⟨m.src,m.dst,4,m.bat,m.hdr,m.slt,⟨⟨0,0,[],[]⟩,[]⟩,m.round⟩:Msg) (.slice tA m.bat.txs.length tc) (.slice bA m.hdr.batches.length bc) (.slice pA m.hdr.parents.length pc) (.slice dA m.slt.digest.length dc) (.slice none 0 0) (.slice none 0 0) (.slice none 0 0):=by
  exact⟨r4.txs,r4.bats,r4.pars,r4.dig,RSl.nil _ _ _ _,RSl.nil _ _ _ _,RVec.nil _ _ _⟩
 by_cases A:E=0
 ·subst A;have g:Hid (Q=if X then 4 else 0):=by show _=_;rw[p.out];rfl
  have q:Zoq ⟨m.src,m.dst,4,m.bat,m.hdr,m.slt,⟨⟨0,0,[],[]⟩,[]⟩,m.round⟩= !X:=by rw[←P,Zgs m (by omega),J.out]
  go_wp2_with (refine wpList_load_row rfl 90 _ rfl _ rfl _ _ _ _ H underlying90 rfl (by kernel_rfl) ?_);refine(Zio ⟨m.src,m.dst,4,m.bat,m.hdr,m.slt,⟨⟨0,0,[],[]⟩,[]⟩,m.round⟩ (.slice tA m.bat.txs.length tc) (.slice bA m.hdr.batches.length bc) (.slice pA m.hdr.parents.length pc) (.slice dA m.slt.digest.length dc) (.slice none 0 0) (.slice none 0 0) (.slice none 0 0) _ rR).mono ?_
  rintro e w5 ⟨rfl,I⟩;rw[q];have l:=d.trans (I.mono d.size);cases X
  ·go_wp2;go_ret;exact⟨Zak (by rw[g.out];rfl),l⟩
  ·go_wp2;go_ret;exact⟨Zak (by rw[g.out];rfl),l⟩
 ·have g:Hid (Q=E):=by show _=_;rw[p.out,if_pos A]
  go_wp2;go_ret;exact⟨Zak g.out.symm,d⟩
theorem check_5(m:Msg)(f:m.kind=5)(vt vb vp vd cb cp cv:Value)(w:World)(r:RMsg w.cell? m vt vb vp vd cb cp cv)(J:∀s∈m.bat.txs,s.size≤140737488355328) :
 Calls prog 42 #[.agg (msgC m vt vb vp vd cb cp cv)] w fun e w'=>e=.returned (.int .i64 (msgF m))∧Below w.heap.size w w':=by
 obtain⟨⟨tA,tc,rfl⟩,⟨bA,bc,rfl⟩,⟨pA,pc,rfl⟩,⟨dA,dc,rfl⟩,⟨cA,cc,rfl⟩,⟨qA,qc,rfl⟩,⟨vA,vc,rfl⟩⟩:=r.forms;have M:=Zb J;clear J;obtain⟨Q,h⟩:∃Q,Hid (msgF m=Q):=⟨_,rfl⟩;rw[h.out];cases ha:inB m.src 0 3
 ·have o:Hid (Q=2):=h.out.symm.trans (by simp[msgF,ha]);unfold msgC;go_enter func42,ntmps42;go_wp2_with (first|(go_at_call 70;refine(Za5 _ _).mono ?_;rintro e w' ⟨rfl,rfl⟩)|fail);go_ret;exact⟨Zak o.out.symm,Zac _ _⟩
 cases hb:inB m.dst 0 3
 ·have o:Hid (Q=2):=h.out.symm.trans (by simp[msgF,ha,hb]);unfold msgC;go_enter func42,ntmps42;go_wp2_with (first|(go_at_call 70;refine(Za5 _ _).mono ?_;rintro e w' ⟨rfl,rfl⟩)|fail);go_ret;exact⟨Zak o.out.symm,Zac _ _⟩
 obtain⟨E,B⟩:∃E,Hid (Zea m=E):=⟨_,rfl⟩;obtain⟨X,H⟩:∃X,Hid (Zlz m=X):=⟨_,rfl⟩;have o:Hid (Q=if inB m.kind 1 5 then(if E≠0 then E else if X then 4 else 0)else 3):=h.out.symm.trans (by simp only[msgF,ha,hb,Bool.and_self,if_true];rw[B.out,H.out]);clear h;unfold msgC;go_enter func42,ntmps42;go_upto_region 1 with fail;refine Zo fun W b A t=>?_
 have r1:=r.mono (Zaa t);have K:=t.size;have I:=b.lt;clear r A;have g0:=b.cell 0;have g1:=b.cell 1;have g2:=b.cell 2;simp at g0 g1 g2;go_wp2_with (first|(go_at_call 70;refine(Za5 _ _).mono ?_;rintro e w' ⟨rfl,rfl⟩)|(refine wpList_load_row rfl 90 _ rfl _ rfl _ _ _ _ b underlying90 rfl (by kernel_rfl) ?_)|(refine Zj 19 (Blk.new _ _ _) ?_));intro w2 C x;have c:Below W.heap.size W w2:=Zab (Zac _ _) (Zar _ (Za _)) x (by intro k e;injection e;omega);have y:=t.trans (c.mono K);have j:=b.kept c;have r2:=r1.mono (Zaa c);have D:=c.size;have r1b:=r1;have u:=c;clear x c r1 b g0 g1 g2;have a:=j;have g2:=a.cell 2;have g3:=a.cell 3;have g4:=a.cell 4;have g5:=a.cell 5;have g6:=a.cell 6;have g7:=a.cell 7;have g8:=a.cell 8;have g9:=a.cell 9;have g10:=a.cell 10;have g11:=a.cell 11;have g12:=a.cell 12;have g13:=a.cell 13;have g14:=a.cell 14;have g15:=a.cell 15;have g16:=a.cell 16;have g17:=a.cell 17;have g18:=a.cell 18;simp at g2 g3 g4 g5 g6 g7 g8 g9 g10 g11 g12 g13 g14 g15 g16 g17 g18;have r2g:RMsg (View.but w2.cell? (some W.heap.size)) m (.slice tA m.bat.txs.length tc) (.slice bA m.hdr.batches.length bc) (.slice pA m.hdr.parents.length pc) (.slice dA m.slt.digest.length dc) (.slice cA m.crt.hdr.batches.length cc) (.slice qA m.crt.hdr.parents.length qc) (.slice vA m.crt.voters.length vc):=r1b.mono (Zdc u);have o:Hid (Q=if E≠0 then E else if X then 4 else 0):=by show _=_;rw[o.out,if_pos (by simp[inB,f])]
 have L:Zke m=⟨m.src,m.dst,5,m.bat,m.hdr,m.slt,m.crt,0⟩:=by unfold Zke;simp[f]
 try rw[f]at g2
 go_wp2_with (refine Zaj (n:=1) rfl rfl rfl rfl (by kernel_rfl) rfl C (by simp) rfl ?_);intro w3 q i
 have q:Blk w3 W.heap.size 90 #[.int .i64 m.src,.int .i64 m.dst,.int .i64 5,.int .i64 m.bat.author,.int .i64 m.bat.number,.slice tA m.bat.txs.length tc,.int .i64 m.hdr.author,.int .i64 m.hdr.round,.slice bA m.hdr.batches.length bc,.slice pA m.hdr.parents.length pc,.int .i64 m.slt.author,.int .i64 m.slt.round,.slice dA m.slt.digest.length dc,.int .i64 m.crt.hdr.author,.int .i64 m.crt.hdr.round,.slice cA m.crt.hdr.batches.length cc,.slice qA m.crt.hdr.parents.length qc,.slice vA m.crt.voters.length vc,.int .i64 0]:=q;have z:Below W.heap.size w2 w3:=Zab (Zm _ _) D i (by intro k e;injection e;omega);have d:Below w.heap.size w w3:=Zab y (by omega) i (by intro k e;injection e;omega);have v:=j.below z (by omega);have r3:=r2g.mono (Zbn i)
 have rR:RMsg w3.cell? (⟨m.src,m.dst,5,m.bat,m.hdr,m.slt,m.crt,0⟩:Msg) (.slice tA m.bat.txs.length tc) (.slice bA m.hdr.batches.length bc) (.slice pA m.hdr.parents.length pc) (.slice dA m.slt.digest.length dc) (.slice cA m.crt.hdr.batches.length cc) (.slice qA m.crt.hdr.parents.length qc) (.slice vA m.crt.voters.length vc):=by
  exact⟨r3.txs,r3.bats,r3.pars,r3.dig,r3.cbats,r3.cpars,r3.vots⟩
 clear i z g2 g3 g4 g5 g6 g7 g8 g9 g10 g11 g12 g13 g14 g15 g16 g17 g18;have g18r:=v.cell 18;simp at g18r;have p:Zoq ⟨m.src,m.dst,5,m.bat,m.hdr,m.slt,m.crt,0⟩= !X:=by rw[←L,Zgs m (by omega),H.out]
 cases hr:inB m.round 1 1048576
 ·have F:Hid (E=2):=B.out.symm.trans (by simp[Zea,f,hr]);have g:Hid (Q=2):=by show _=_;rw[o.out,F.out];rfl
  go_wp2_with (first|(go_at_call 75;refine(count_any _ _).mono ?_;rintro e w' ⟨rfl,rfl⟩)|fail);go_ret
  exact⟨Zak g.out.symm,d⟩
 ·have F:Hid (E=0):=B.out.symm.trans (by simp[Zea,f,hr]);have g:Hid (Q=if X then 4 else 0):=by show _=_;rw[o.out,F.out];rfl
  go_wp2_with (first|(go_at_call 75;refine(count_any _ _).mono ?_;rintro e w' ⟨rfl,rfl⟩)|(refine wpList_load_row rfl 90 _ rfl _ rfl _ _ _ _ q underlying90 rfl (by kernel_rfl) ?_));refine(Zio ⟨m.src,m.dst,5,m.bat,m.hdr,m.slt,m.crt,0⟩ (.slice tA m.bat.txs.length tc) (.slice bA m.hdr.batches.length bc) (.slice pA m.hdr.parents.length pc) (.slice dA m.slt.digest.length dc) (.slice cA m.crt.hdr.batches.length cc) (.slice qA m.crt.hdr.parents.length qc) (.slice vA m.crt.voters.length vc) _ rR).mono ?_
  rintro e w5 ⟨rfl,G⟩;rw[p];have l:=d.trans (G.mono d.size);cases X
  ·go_wp2;go_ret;exact⟨Zak (by rw[g.out];rfl),l⟩
  ·go_wp2;go_ret;exact⟨Zak (by rw[g.out];rfl),l⟩
end Go.Proofs.YtbcpbnfojfiekaaGreatDoor
