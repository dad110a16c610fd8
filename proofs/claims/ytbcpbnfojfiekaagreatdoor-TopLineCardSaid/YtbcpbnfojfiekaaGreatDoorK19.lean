/- A part of what the last text stands on. -/
import Derived.Test.YtbcpbnfojfiekaaGreatDoorK12
import Derived.Test.YtbcpbnfojfiekaaGreatDoorK18
namespace Go.Proofs.YtbcpbnfojfiekaaGreatDoor
open Go.ChangeShapes Go.WideShapes Go.ChangeAt Go.RowKit Go.Proofs.Tryz Qa Qb Qc
set_option linter.all false
set_option maxHeartbeats 20000000
set_option maxRecDepth 100000
variable{w w':World}{v:Value}{cs:Array Value}{g b:Nat}{m:Msg}
theorem Zd7(m:Msg)(vt vb vp vd cb cp cv:Value)(w:World)(r:RMsg w.cell? m vt vb vp vd cb cp cv)(b:∀s∈m.bat.txs,s.size≤140737488355328) :
 Calls prog 42 #[.agg (msgC m vt vb vp vd cb cp cv)] w fun e w'=>e=.returned (.int .i64 (msgF m))∧Below w.heap.size w w':=by
 by_cases a:m.kind=1∨m.kind=2∨m.kind=3∨m.kind=4∨m.kind=5
 ·rcases a with a|a|a|a|a
  ·exact check_1 m a _ _ _ _ _ _ _ w r b
  ·exact check_2 m a _ _ _ _ _ _ _ w r b
  ·exact check_3 m a _ _ _ _ _ _ _ w r b
  ·exact check_4 m a _ _ _ _ _ _ _ w r b
  ·exact check_5 m a _ _ _ _ _ _ _ w r b
 ·exact check_0 m a _ _ _ _ _ _ _ w r b
def recF(m:Msg):Int:=if msgF m≠0 then msgF m else if m.src≠0∨m.dst≠0∨m.kind=5 then 4 else 0
theorem Zie(m:Msg)(vt vb vp vd cb cp cv:Value)(w:World)(r:RMsg w.cell? m vt vb vp vd cb cp cv)(v:∀s∈m.bat.txs,s.size≤140737488355328) :
 Calls prog 204 #[.agg (msgC m vt vb vp vd cb cp cv)] w fun e w'=>e=.returned (.int .i64 (recF m))∧Below w.heap.size w w':=by
 obtain⟨Q,t⟩:∃Q,Hid (recF m=Q):=⟨_,rfl⟩;obtain⟨E,o⟩:∃E,Hid (msgF m=E):=⟨_,rfl⟩;have f:Hid (Q=if E≠0 then E else if m.src≠0∨m.dst≠0∨m.kind=5 then 4 else 0):=by show _=_;rw[←t.out];unfold recF;rw[o.out]
 rw[t.out];clear t;unfold msgC;go_enter func204,ntmps204;go_upto_region 1 with fail;refine Zo fun W i q g=>?_
 have r1:=r.mono (Zaa g);go_wp2_with (refine wpList_load_row rfl 90 _ rfl _ rfl _ _ _ _ i underlying90 rfl (by kernel_rfl) ?_);refine(Zd7 m _ _ _ _ _ _ _ _ r1 v).mono ?_;rintro e w1 ⟨rfl,k⟩;rw[o.out];have d:=g.trans (k.mono g.size);have l:=i.kept k;have g0:=l.cell 0;have g1:=l.cell 1;have g2:=l.cell 2;simp at g0 g1 g2;clear r r1 l i q o;generalize m.src=a at *;generalize m.dst=b at *;generalize m.kind=c at *
 by_cases u:E=0
 ·subst u
  by_cases j:a=0
  ·by_cases n:b=0
   ·by_cases p:c=5
    ·have H:Hid (Q=4):=by show _=_;rw[f.out];simp[p]
     clear f;subst j n p;go_wp2;go_ret;exact⟨Zak H.out.symm,d⟩
    ·have H:Hid (Q=0):=by show _=_;rw[f.out];simp[j,n,p]
     clear f;subst j n;go_wp2;go_ret;exact⟨Zak H.out.symm,d⟩
   ·have H:Hid (Q=4):=by show _=_;rw[f.out];simp[n]
    clear f;subst j;go_wp2;go_ret;exact⟨Zak H.out.symm,d⟩
  ·have H:Hid (Q=4):=by show _=_;rw[f.out];simp[j]
   clear f;go_wp2;go_ret;exact⟨Zak H.out.symm,d⟩
 ·have H:Hid (Q=E):=by show _=_;rw[f.out,if_pos u]
  clear f;go_wp2;go_ret;exact⟨Zak H.out.symm,d⟩
theorem encode_1(m:Msg)(l:m.kind=1)(o:msgF m=0)(vt vb vp vd cb cp cv:Value)(w:World)(r:RMsg w.cell? m vt vb vp vd cb cp cv)(A:∀s∈m.bat.txs,s.size≤140737488355328) :
 Calls prog 26 #[.agg (msgC m vt vb vp vd cb cp cv)] w fun e w'=>∃d,e=.returned (.tuple #[d,.int .i64 0])∧Below w.heap.size w w'∧Zan (View.from w'.cell? w.heap.size) d (msgB m):=by
 obtain⟨⟨tA,tc,rfl⟩,⟨bA,bc,rfl⟩,⟨pA,pc,rfl⟩,⟨dA,dc,rfl⟩,⟨cA,cc,rfl⟩,⟨qA,qc,rfl⟩,⟨vA,vc,rfl⟩⟩:=r.forms;have e1:=Zaw m.src;have e2:=Zaw m.dst;have i:Hid (msgB m=[1,Zaq m.src,Zaq m.dst]++Zfn m.bat.author m.bat.number m.bat.txs):=by show _=_;simp[msgB,Zdo,l,Zaq]
 generalize Zaq m.src=U1 at e1 i;generalize Zaq m.dst=U2 at e2 i;generalize msgB m=R at i⊢;obtain⟨q0,q1,q2⟩:=batchF_zero (body_1 l o);have z:=Zb l;have x:=Zb o;clear l o;unfold msgC;go_enter func26,ntmps26;go_upto_region 1 with fail;refine Zo fun W g p f=>?_
 have r1:=r.mono (Zaa f);go_wp2_with (refine wpList_load_row rfl 90 _ rfl _ rfl _ _ _ _ g underlying90 rfl (by kernel_rfl) ?_);refine(Zd7 m _ _ _ _ _ _ _ _ r1 A).mono ?_;rintro e w1 ⟨rfl,b⟩;rw[x.out];have c:=f.trans (b.mono f.size);have j:=c.size;have a:=g.kept b;have v:=a.lt;have g0:=a.cell 0;have g1:=a.cell 1;have g2:=a.cell 2;have g3:=a.cell 3;have g4:=a.cell 4;have g5:=a.cell 5;have g6:=a.cell 6;have g7:=a.cell 7;have g8:=a.cell 8;have g9:=a.cell 9;have g10:=a.cell 10;have g11:=a.cell 11;have g12:=a.cell 12;have g13:=a.cell 13;have g14:=a.cell 14;have g15:=a.cell 15;have g16:=a.cell 16;have g17:=a.cell 17;have g18:=a.cell 18;simp at g0 g1 g2 g3 g4 g5 g6 g7 g8 g9 g10 g11 g12 g13 g14 g15 g16 g17 g18;rw[z.out]at g2;have r2:=r1.mono (Zaa b);have k:∀(W:World) (n:Nat) (xs:List UInt8),Blk W n 5 (xs.map encB).toArray→w1.heap.size≤n→xs.length=3→OwnB W w1.heap.size (.slice (some ⟨n,0,none⟩) 3 3) xs:=fun W n xs B hn h=>OwnVec.lit B hn h.symm (by decide)
 clear r r1 g p b;have q:Hid (R.length=3+(5+(Zbg m.bat.txs).length)):=by show _=_;rw[i.out,Zl,batchB_len];rfl
 go_wp2_with fail;refine(Zj5 w1 _ [1,U1,U2] m.bat.author m.bat.number _ m.bat.txs _ (Zac _ _) (k _ _ [1,U1,U2] (Blk.new _ _ _) (Za _) rfl) (by omega) (by omega) r2.txs (by simp only[Zu,List.length_nil];omega)).mono ?_
 rintro e w2 ⟨v2,rfl,t,y,u⟩;clear g0 g1 g3 g4 g5 g6 g7 g8 g9 g10 g11 g12 g13 g14 g15 g16 g17 g18;go_wp2;go_ret2;exact⟨_,rfl,c.trans (t.mono j),by rw[i.out];exact(u).from_ (bs:=1) (by rw[←i.out];rw[q.out];omega) j⟩
theorem encode_2(m:Msg)(l:m.kind=2)(o:msgF m=0)(vt vb vp vd cb cp cv:Value)(w:World)(r:RMsg w.cell? m vt vb vp vd cb cp cv)(A:∀s∈m.bat.txs,s.size≤140737488355328) :
 Calls prog 26 #[.agg (msgC m vt vb vp vd cb cp cv)] w fun e w'=>∃d,e=.returned (.tuple #[d,.int .i64 0])∧Below w.heap.size w w'∧Zan (View.from w'.cell? w.heap.size) d (msgB m):=by
 obtain⟨⟨tA,tc,rfl⟩,⟨bA,bc,rfl⟩,⟨pA,pc,rfl⟩,⟨dA,dc,rfl⟩,⟨cA,cc,rfl⟩,⟨qA,qc,rfl⟩,⟨vA,vc,rfl⟩⟩:=r.forms;have e1:=Zaw m.src;have e2:=Zaw m.dst;have i:Hid (msgB m=[2,Zaq m.src,Zaq m.dst]++Zcd m.hdr.author m.hdr.round m.hdr.batches m.hdr.parents):=by show _=_;simp[msgB,Zdo,l,Zaq]
 generalize Zaq m.src=U1 at e1 i;generalize Zaq m.dst=U2 at e2 i;generalize msgB m=R at i⊢;obtain⟨q0,q1,q2,q3⟩:=headF_zero (body_2 l o);have z:=Zb l;have x:=Zb o;clear l o;unfold msgC;go_enter func26,ntmps26;go_upto_region 1 with fail;refine Zo fun W g p f=>?_
 have r1:=r.mono (Zaa f);go_wp2_with (refine wpList_load_row rfl 90 _ rfl _ rfl _ _ _ _ g underlying90 rfl (by kernel_rfl) ?_);refine(Zd7 m _ _ _ _ _ _ _ _ r1 A).mono ?_;rintro e w1 ⟨rfl,b⟩;rw[x.out];have c:=f.trans (b.mono f.size);have j:=c.size;have a:=g.kept b;have v:=a.lt;have g0:=a.cell 0;have g1:=a.cell 1;have g2:=a.cell 2;have g3:=a.cell 3;have g4:=a.cell 4;have g5:=a.cell 5;have g6:=a.cell 6;have g7:=a.cell 7;have g8:=a.cell 8;have g9:=a.cell 9;have g10:=a.cell 10;have g11:=a.cell 11;have g12:=a.cell 12;have g13:=a.cell 13;have g14:=a.cell 14;have g15:=a.cell 15;have g16:=a.cell 16;have g17:=a.cell 17;have g18:=a.cell 18;simp at g0 g1 g2 g3 g4 g5 g6 g7 g8 g9 g10 g11 g12 g13 g14 g15 g16 g17 g18;rw[z.out]at g2;have r2:=r1.mono (Zaa b);have k:∀(W:World) (n:Nat) (xs:List UInt8),Blk W n 5 (xs.map encB).toArray→w1.heap.size≤n→xs.length=3→OwnB W w1.heap.size (.slice (some ⟨n,0,none⟩) 3 3) xs:=fun W n xs B hn h=>OwnVec.lit B hn h.symm (by decide)
 clear r r1 g p b;have q:Hid (R.length=3+(6+m.hdr.batches.flatten.length+m.hdr.parents.flatten.length)):=by show _=_;rw[i.out,Zl,headerB_len];rfl
 go_wp2_with fail;refine(Zf9 w1 _ [2,U1,U2] m.hdr.author m.hdr.round _ _ m.hdr.batches m.hdr.parents _ (Zac _ _) (k _ _ [2,U1,U2] (Blk.new _ _ _) (Za _) rfl) (by omega) (by omega) r2.bats r2.pars (by simp only[Zu,List.length_nil];omega)).mono ?_
 rintro e w2 ⟨v2,rfl,t,y,u⟩;clear g0 g1 g3 g4 g5 g6 g7 g8 g9 g10 g11 g12 g13 g14 g15 g16 g17 g18;go_wp2;go_ret2;exact⟨_,rfl,c.trans (t.mono j),by rw[i.out];exact(u).from_ (bs:=1) (by rw[←i.out];rw[q.out];omega) j⟩
theorem encode_3(m:Msg)(F:m.kind=3)(G:msgF m=0)(vt vb vp vd cb cp cv:Value)(w:World)(r:RMsg w.cell? m vt vb vp vd cb cp cv)(S:∀s∈m.bat.txs,s.size≤140737488355328) :
 Calls prog 26 #[.agg (msgC m vt vb vp vd cb cp cv)] w fun e w'=>∃d,e=.returned (.tuple #[d,.int .i64 0])∧Below w.heap.size w w'∧Zan (View.from w'.cell? w.heap.size) d (msgB m):=by
 obtain⟨⟨tA,tc,rfl⟩,⟨bA,bc,rfl⟩,⟨pA,pc,rfl⟩,⟨dA,dc,rfl⟩,⟨cA,cc,rfl⟩,⟨qA,qc,rfl⟩,⟨vA,vc,rfl⟩⟩:=r.forms;have e1:=Zaw m.src;have e2:=Zaw m.dst;have A:Hid (msgB m=[3,Zaq m.src,Zaq m.dst]++((Zaq m.slt.author::Zca m.slt.round)++m.slt.digest)):=by show _=_;simp[msgB,Zdo,F,Zaq]
 generalize Zaq m.src=U1 at e1 A;generalize Zaq m.dst=U2 at e2 A;generalize msgB m=R at A⊢;obtain⟨q0,q1,q2⟩:=slotF_zero (body_3 F G);have Q2:=Zb q2;clear q2;have P:=Zb F;have O:=Zb G;clear F G;unfold msgC;go_enter func26,ntmps26;go_upto_region 1 with fail;refine Zo fun W y I u=>?_
 have r1:=r.mono (Zaa u);go_wp2_with (refine wpList_load_row rfl 90 _ rfl _ rfl _ _ _ _ y underlying90 rfl (by kernel_rfl) ?_);refine(Zd7 m _ _ _ _ _ _ _ _ r1 S).mono ?_;rintro e w1 ⟨rfl,k⟩;rw[O.out];have p:=u.trans (k.mono u.size);have B:=p.size;have b:=y.kept k;have N:=b.lt;have g0:=b.cell 0;have g1:=b.cell 1;have g2:=b.cell 2;have g3:=b.cell 3;have g4:=b.cell 4;have g5:=b.cell 5;have g6:=b.cell 6;have g7:=b.cell 7;have g8:=b.cell 8;have g9:=b.cell 9;have g10:=b.cell 10;have g11:=b.cell 11;have g12:=b.cell 12;have g13:=b.cell 13;have g14:=b.cell 14;have g15:=b.cell 15;have g16:=b.cell 16;have g17:=b.cell 17;have g18:=b.cell 18;simp at g0 g1 g2 g3 g4 g5 g6 g7 g8 g9 g10 g11 g12 g13 g14 g15 g16 g17 g18;rw[P.out]at g2;have r2:=r1.mono (Zaa k);have E:∀(W:World) (n:Nat) (xs:List UInt8),Blk W n 5 (xs.map encB).toArray→w1.heap.size≤n→xs.length=3→OwnB W w1.heap.size (.slice (some ⟨n,0,none⟩) 3 3) xs:=fun W n xs T hn Q=>OwnVec.lit T hn Q.symm (by decide)
 clear r r1 y I k;have J:Hid (R.length=39):=by show _=_;rw[A.out,Zl,Zl,Q2.out];rfl
 have e3:=Zaw m.slt.author;generalize Zaq m.slt.author=U3 at e3 A;go_wp2_with fail;refine Za9 _ _ _ (fun W=>(Code.region _ _ _).wp _ _ _ W) (fun W2 C D c=>?_);have H:=E W2 _ [3,U1,U2] C (Za _) rfl;have L:=b.kept c;have o:=c.size;clear g0 g1 g3 g4 g5 g6 g7 g8 g9 g10 g11 g12 g13 g14 g15 g16 g17 g18;refine Zt (fun w'=>Below W2.heap.size W2 w') (fun w'=>Blk w' w.heap.size 90 (msgC m (.slice tA m.bat.txs.length tc) (.slice bA m.hdr.batches.length bc) (.slice pA m.hdr.parents.length pc) (.slice dA m.slt.digest.length dc) (.slice cA m.crt.hdr.batches.length cc) (.slice qA m.crt.hdr.parents.length qc) (.slice vA m.crt.voters.length vc))) [15] (.q 0 (.q 1 (.q 2 (.q 3 (.q 4 (.q 7 (.q 8 (.q 9 (.q 11 (.q 12 (.q 13 (.l 5 (.l 6 (.l 10 (.l 14 (.qc 15 .nil)))))))))))))))) ?_ ?_
 ·exact⟨Zad _,L⟩
 intro W1 x a;have H:=H.kept x;have c:=c.trans (x.mono o);have o:=c.size;clear x C D
 repeat((first|refine pq (h:=⟨_,fun w' a=>by(have f:=a.cell 10;have g:=a.cell 11;have i:=a.cell 12;simp[msgC]at f g i;go_simp;exact rfl),?_⟩)|refine Zq ?_);simp only[sx])
 refine Zd fun K j=>?_
 try simp only[sy]
 go_simp;refine j.out _ _ (a.alloc _) fun a=>?_
 clear j K
 try simp only[sx]
 repeat((first|refine pq (h:=⟨_,fun w' a=>by(have f:=a.cell 10;have g:=a.cell 11;have i:=a.cell 12;simp[msgC]at f g i;go_simp;exact rfl),?_⟩)|refine Zq ?_);simp only[sx])
 refine Zd fun K j=>?_
 try simp only[sy]
 have t:=Zpa W1 U3;have z:=H.alloc (.cells #[.int .u8 U3.toNat] 5);refine Zgn (n:=140737488355328) (W:=w1) (xs:=[3,U1,U2]) (ys:=[U3]) (v:=.slice (some ⟨w1.heap.size,0,none⟩) 3 3) (vy:=.slice (some ⟨W1.heap.size,0,none⟩) 1 1) Za7 _ _ rfl rfl z (c.alloc o _) (Zar _ o) rfl t (by decide) (by simp) ?_;intro v1 w2 o1 b1 gg1;have k0:=Zat z gg1;have z1:=b1.size;clear gg1 z t;refine j.out _ _ (k0 _ _ _ (by decide) a) fun a=>?_
 clear j K
 try simp only[sx]
 repeat((first|refine pq (h:=⟨_,fun w' a=>by(have f:=a.cell 10;have g:=a.cell 11;have i:=a.cell 12;simp[msgC]at f g i;go_simp;exact rfl),?_⟩)|refine Zq ?_);simp only[sx])
 refine Zd fun K j=>?_
 try simp only[sy]
 go_simp;refine(Zf3 v1 m.slt.round ([3,U1,U2]++[U3]) _ _ o1 z1 (by omega) (by omega) (by simp)).mono ?_;rintro e w3 ⟨v2,rfl,b2,k2,o2,_⟩;have b2:=b1.trans b2;have z2:=b2.size;clear o1 b1;refine j.out _ _ (k2 _ _ _ (by decide) a) fun a=>?_
 clear j K
 try simp only[sx]
 repeat((first|refine pq (h:=⟨_,fun w' a=>by(have f:=a.cell 10;have g:=a.cell 11;have i:=a.cell 12;simp[msgC]at f g i;go_simp;exact rfl),?_⟩)|refine Zq ?_);simp only[sx])
 refine Zd fun K j=>?_
 try simp only[sy]
 refine Zgn (n:=140737488355328) (W:=w1) (xs:=[3,U1,U2]++[U3]++Zca m.slt.round) (ys:=m.slt.digest) (v:=v2) (vy:=.slice dA m.slt.digest.length dc) Za7 _ _ rfl rfl o2 b2 z2 rfl (r2.dig.mono (Zaa b2)) (by decide) (by rw[Q2.out];simp[Zca]) ?_;intro v3 w4 o3 b3 gg3;have k3:=Zat o2 gg3;clear gg3;refine j.out _ _ (k3 _ _ _ (by decide) a) fun a=>?_
 clear j K
 try simp only[sx]
 repeat(refine Zq ?_;simp only[sx])
 refine Zai ?_;have M:OwnB w4 w1.heap.size v3 ([3,U1,U2]++((U3::Zca m.slt.round)++m.slt.digest)):=by simpa using o3
 clear o3 o2;go_wp2;go_ret2;exact⟨_,rfl,p.trans (b3.mono B),by rw[A.out];exact(M).from_ (bs:=1) (by rw[←A.out];rw[J.out];omega) B⟩
theorem encode_4(m:Msg)(P:m.kind=4)(V:msgF m=0)(vt vb vp vd cb cp cv:Value)(w:World)(r:RMsg w.cell? m vt vb vp vd cb cp cv)(hs:∀s∈m.bat.txs,s.size≤140737488355328) :
 Calls prog 26 #[.agg (msgC m vt vb vp vd cb cp cv)] w fun e w'=>∃d,e=.returned (.tuple #[d,.int .i64 0])∧Below w.heap.size w w'∧Zan (View.from w'.cell? w.heap.size) d (msgB m):=by
 obtain⟨⟨tA,tc,rfl⟩,⟨bA,bc,rfl⟩,⟨pA,pc,rfl⟩,⟨dA,dc,rfl⟩,⟨cA,cc,rfl⟩,⟨qA,qc,rfl⟩,⟨vA,vc,rfl⟩⟩:=r.forms;have e1:=Zaw m.src;have e2:=Zaw m.dst;have L:Hid (msgB m=[4,Zaq m.src,Zaq m.dst]++(Zcd m.crt.hdr.author m.crt.hdr.round m.crt.hdr.batches m.crt.hdr.parents++(Zaq m.crt.voters.length::m.crt.voters.map Zaq))):=by show _=_;simp[msgB,Zdo,P,Zaq]
 generalize Zaq m.src=U1 at e1 L;generalize Zaq m.dst=U2 at e2 L;generalize msgB m=R at L⊢;obtain⟨q0,q1,q2,q3,q4,q5,q6⟩:=certF_zero (body_4 P V);have Hk:=Zb P;have H0:=Zb V;clear P V;unfold msgC;go_enter func26,ntmps26;go_upto_region 1 with fail;refine Zo fun W J h1 E=>?_
 have r1:=r.mono (Zaa E);go_wp2_with (refine wpList_load_row rfl 90 _ rfl _ rfl _ _ _ _ J underlying90 rfl (by kernel_rfl) ?_);refine(Zd7 m _ _ _ _ _ _ _ _ r1 hs).mono ?_;rintro e w1 ⟨rfl,A⟩;rw[H0.out];have B:=E.trans (A.mono E.size);have N:=B.size;have c:=J.kept A;have h8:=c.lt;have g0:=c.cell 0;have g1:=c.cell 1;have g2:=c.cell 2;have g3:=c.cell 3;have g4:=c.cell 4;have g5:=c.cell 5;have g6:=c.cell 6;have g7:=c.cell 7;have g8:=c.cell 8;have g9:=c.cell 9;have g10:=c.cell 10;have g11:=c.cell 11;have g12:=c.cell 12;have g13:=c.cell 13;have g14:=c.cell 14;have g15:=c.cell 15;have g16:=c.cell 16;have g17:=c.cell 17;have g18:=c.cell 18;simp at g0 g1 g2 g3 g4 g5 g6 g7 g8 g9 g10 g11 g12 g13 g14 g15 g16 g17 g18;rw[Hk.out]at g2;have r2:=r1.mono (Zaa A);have S:∀(W:World) (n:Nat) (xs:List UInt8),Blk W n 5 (xs.map encB).toArray→w1.heap.size≤n→xs.length=3→OwnB W w1.heap.size (.slice (some ⟨n,0,none⟩) 3 3) xs:=fun W n xs hb hn hl=>OwnVec.lit hb hn hl.symm (by decide)
 clear r r1 J h1 A;have h2:Hid (R.length=4+(6+m.crt.hdr.batches.flatten.length+m.crt.hdr.parents.flatten.length)+m.crt.voters.length):=by show _=_;rw[L.out];simp only[Zl,Zu,List.length_nil,List.length_map,headerB_len];omega
 have e3:=Zaw m.crt.voters.length;obtain⟨H,T⟩:∃H,Hid (Zcd m.crt.hdr.author m.crt.hdr.round m.crt.hdr.batches m.crt.hdr.parents=H):=⟨_,rfl⟩;have hc:H.length≤240:=by rw[←T.out,headerB_len];omega
 rw[T.out]at L;generalize Zaq m.crt.voters.length=U3 at e3 L;obtain⟨Y,U⟩:∃Y,Hid ([4,U1,U2]++H++[U3]=Y):=⟨_,rfl⟩;have h9:Y.length≤300:=by rw[←U.out];simp only[Zl,Zu,List.length_nil];omega
 have O:Hid (R=Y++m.crt.voters.map Zaq):=by show _=_;rw[L.out,←U.out];simp
 go_upto_region 13 with fail;refine Zo fun W2 G Q a=>?_
 have z:=S W2 _ [4,U1,U2] G (Za _) rfl;have I:=c.kept a;have g:=a.size;clear g0 g1 g3 g4 g5 g6 g7 g8 g9 g10 g11 g12 g13 g14 g15 g16 g17 g18;clear Q
 go_cut [5] (fun v w'=>Blk w' w.heap.size 90 (msgC m (.slice tA m.bat.txs.length tc) (.slice bA m.hdr.batches.length bc) (.slice pA m.hdr.parents.length pc) (.slice dA m.slt.digest.length dc) (.slice cA m.crt.hdr.batches.length cc) (.slice qA m.crt.hdr.parents.length qc) (.slice vA m.crt.voters.length vc))∧OwnB w' w1.heap.size v Y∧Below w1.heap.size w1 w')
 case first =>
  refine Zt (fun w'=>Below W2.heap.size W2 w') (fun w'=>Blk w' w.heap.size 90 (msgC m (.slice tA m.bat.txs.length tc) (.slice bA m.hdr.batches.length bc) (.slice pA m.hdr.parents.length pc) (.slice dA m.slt.digest.length dc) (.slice cA m.crt.hdr.batches.length cc) (.slice qA m.crt.hdr.parents.length qc) (.slice vA m.crt.voters.length vc))) [12] (.q 0 (.q 1 (.q 2 (.q 3 (.q 5 (.q 6 (.q 7 (.q 8 (.q 9 (.alt 4 (.l 10 (.l 11 (.qc 12 .nil))) 10 (.l 4 (.l 11 (.qc 12 .nil))))))))))))) ?_ ?_
  ·exact⟨Zad _,I⟩
  intro W1 F b;have z:=z.kept F;have a:=a.trans (F.mono g);have g:=a.size;clear F G I
  repeat((first|refine pq (h:=⟨_,fun w' b=>by(have o:=b.cell 13;have t:=b.cell 14;have p:=b.cell 15;have f:=b.cell 16;have j:=b.cell 17;simp[msgC]at o t p f j;go_simp;exact rfl),?_⟩)|refine Zq ?_);simp only[sx])
  refine Zcm ?_ ?_
  ·refine Zd fun K u=>?_
   try simp only[sy]
   go_simp;refine(Zf9 w1 _ [4,U1,U2] _ _ _ _ m.crt.hdr.batches m.crt.hdr.parents _ a z (by omega) (by omega) r2.cbats r2.cpars (by simp only[Zu,List.length_nil];omega)).mono ?_;rintro e w3 ⟨v2,rfl,b2,k2,o2⟩;rw[T.out]at o2;have z2:=b2.size;refine u.out _ _ (k2 _ _ _ (by decide) b) fun b=>?_
   clear u K
   try simp only[sx]
   repeat((first|refine pq (h:=⟨_,fun w' b=>by(have o:=b.cell 13;have t:=b.cell 14;have p:=b.cell 15;have f:=b.cell 16;have j:=b.cell 17;simp[msgC]at o t p f j;go_simp;exact rfl),?_⟩)|refine Zq ?_);simp only[sx])
   refine Zd fun K u=>?_
   try simp only[sy]
   go_simp;refine Zdg _ U3 (fun W=>K _ W) (fun w4 cA z4 b4=>?_);refine u.out _ _ (b.kept b4) fun b=>?_
   clear u K
   try simp only[sx]
   repeat((first|refine pq (h:=⟨_,fun w' b=>by(have o:=b.cell 13;have t:=b.cell 14;have p:=b.cell 15;have f:=b.cell 16;have j:=b.cell 17;simp[msgC]at o t p f j;go_simp;exact rfl),?_⟩)|refine Zq ?_);simp only[sx])
   refine Zd fun K u=>?_
   try simp only[sy]
   refine Zb3 (n:=140737488355328) (W:=w1) (xs:=[4,U1,U2]++H) U3 Za7 _ _ rfl rfl (o2.kept b4) (b2.trans (b4.mono z2)) (Zg z2 b4.size) rfl cA (by decide) (by simp only[Zl,Zu,List.length_nil];omega) (fun v3 w5 o3 b3 g3 l3=>?_);refine u.out _ _ (Zat (o2.kept b4) g3 _ _ _ (by decide) b) fun b=>?_
   clear u K
   try simp only[sx]
   repeat(refine Zq ?_;simp only[sx])
   refine Zai ?_;go_wp2;go_meet;exact⟨b,by rw[←U.out];exact o3,b3⟩
  ·refine Zd fun K u=>?_
   try simp only[sy]
   go_simp;refine Zdg _ U3 (fun W=>K _ W) (fun w3 cA z3 b3=>?_);refine u.out _ _ (b.kept b3) fun b=>?_
   clear u K
   try simp only[sx]
   repeat((first|refine pq (h:=⟨_,fun w' b=>by(have o:=b.cell 13;have t:=b.cell 14;have p:=b.cell 15;have f:=b.cell 16;have j:=b.cell 17;simp[msgC]at o t p f j;go_simp;exact rfl),?_⟩)|refine Zq ?_);simp only[sx])
   refine Zd fun K u=>?_
   try simp only[sy]
   go_simp;have h5:=z.kept b3;refine(Zmy w1 _ [4,U1,U2] _ _ _ _ m.crt.hdr.batches m.crt.hdr.parents _ (a.trans (b3.mono g)) h5 (by omega) (by omega) r2.cbats r2.cpars q4 q5 (by simp only[Zu,List.length_nil];omega)).mono ?_;rintro e w4 ⟨v2,rfl,b2,k2,o2,gl⟩;rw[T.out]at o2;have cA:=gl.cell cA (Zqe z);refine u.out _ _ (k2 _ _ _ (by decide) b) fun b=>?_
   clear u K
   try simp only[sx]
   repeat((first|refine pq (h:=⟨_,fun w' b=>by(have o:=b.cell 13;have t:=b.cell 14;have p:=b.cell 15;have f:=b.cell 16;have j:=b.cell 17;simp[msgC]at o t p f j;go_simp;exact rfl),?_⟩)|refine Zq ?_);simp only[sx])
   refine Zd fun K u=>?_
   try simp only[sy]
   refine Zb3 (n:=140737488355328) (W:=w1) (xs:=[4,U1,U2]++H) U3 Za7 _ _ rfl rfl o2 b2 b2.size rfl cA (by decide) (by simp only[Zl,Zu,List.length_nil];omega) (fun v3 w5 o3 b3 g3 l3=>?_);refine u.out _ _ (Zat o2 g3 _ _ _ (by decide) b) fun b=>?_
   clear u K
   try simp only[sx]
   repeat(refine Zq ?_;simp only[sx])
   refine Zai ?_;go_wp2;go_meet;exact⟨b,by rw[←U.out];exact o3,b3⟩
 case rest =>
  clear z G I a g;obtain⟨b,z,a⟩:=hcut;obtain⟨oA,oc,rfl⟩:=z.form;have g:=a.size;have g17:=b.cell 17;simp[msgC]at g17;obtain⟨_,_,_,D⟩:=r2.vots.at;have C:=Zb D;clear D;go_wp2
  go_loopw [5,7,72] (fun v _ i wr=>∃k:Nat,k≤m.crt.voters.length∧i=.int .i64 k∧OwnB wr w1.heap.size v (Y++(m.crt.voters.take k).map Zaq)∧Below w1.heap.size w1 wr) (fun _ _ i _=>m.crt.voters.length-(intOf i).toNat)
  case atStart=>exact⟨0,Zf _,rfl,by simpa using z,a⟩
  case round =>
   clear z b g17 a g;obtain⟨k,P,rfl,y,a⟩:=hrel;have g:=a.size
   by_cases M:k<m.crt.voters.length
   ·obtain⟨b0,o0,rfl,q0'⟩:=C.out k M;have c0:=Zaa a _ _ q0';have Hn:=Zb (show(m.crt.voters.take (k+1)).map Zaq=(m.crt.voters.take k).map Zaq++[Zaq m.crt.voters[k]] by rw[Zn M,List.map_append,List.map_singleton]);have h3:((m.crt.voters.take k).map Zaq).length≤4:=by simp;omega
    have e4:=Zaw m.crt.voters[k];generalize Zaq m.crt.voters[k]=U4 at e4 Hn;generalize (m.crt.voters.take k).map Zaq=Z at y Hn h3;generalize m.crt.voters[k]=x at c0 e4;clear q0'
    go_wp2_with (at_builtin;first
     |(refine Za6 (n:=140737488355328) (W:=w1) (ys:=[U4]) Za7 Zb0 _ _ rfl rfl rfl (y.alloc _) (a.alloc g _) (Zar _ g) rfl (Zpc (xs:=[U4]) (Blk.new _ _ _) (by simp) (by simp)) (by decide) (by simp only[Zl,Zu,List.length_nil];omega) (by simp only[Zl,Zu,List.length_nil];omega) ?_))
    intro v' w2 X h7 _;clear y c0;go_wp2;go_roundw
    case rel=>exact⟨k+1,by omega,by go_num,by rw[Hn.out];simpa using X,h7⟩
    case measure=>simp[intOf];omega
   ·have h4:k=m.crt.voters.length:=by omega
    rw[h4,List.take_length]at y;clear C;go_wp2;go_ret2;exact⟨_,rfl,B.trans (a.mono N),by rw[O.out];exact y.from_ (bs:=1) (by rw[←O.out,h2.out];omega) N⟩
theorem encode_5(m:Msg)(o:m.kind=5)(p:msgF m=0)(vt vb vp vd cb cp cv:Value)(w:World)(r:RMsg w.cell? m vt vb vp vd cb cp cv)(B:∀s∈m.bat.txs,s.size≤140737488355328) :
 Calls prog 26 #[.agg (msgC m vt vb vp vd cb cp cv)] w fun e w'=>∃d,e=.returned (.tuple #[d,.int .i64 0])∧Below w.heap.size w w'∧Zan (View.from w'.cell? w.heap.size) d (msgB m):=by
 obtain⟨⟨tA,tc,rfl⟩,⟨bA,bc,rfl⟩,⟨pA,pc,rfl⟩,⟨dA,dc,rfl⟩,⟨cA,cc,rfl⟩,⟨qA,qc,rfl⟩,⟨vA,vc,rfl⟩⟩:=r.forms;have e1:=Zaw m.src;have e2:=Zaw m.dst;have i:Hid (msgB m=[5,Zaq m.src,Zaq m.dst]++Zca m.round):=by show _=_;simp[msgB,Zdo,o,Zaq]
 generalize Zaq m.src=U1 at e1 i;generalize Zaq m.dst=U2 at e2 i;generalize msgB m=R at i⊢;obtain⟨q0,q1⟩:=body_5 o p;have h:=Zb o;have y:=Zb p;clear o p;unfold msgC;go_enter func26,ntmps26;go_upto_region 1 with fail;refine Zo fun W g q f=>?_
 have r1:=r.mono (Zaa f);go_wp2_with (refine wpList_load_row rfl 90 _ rfl _ rfl _ _ _ _ g underlying90 rfl (by kernel_rfl) ?_);refine(Zd7 m _ _ _ _ _ _ _ _ r1 B).mono ?_;rintro e w1 ⟨rfl,b⟩;rw[y.out];have c:=f.trans (b.mono f.size);have j:=c.size;have a:=g.kept b;have x:=a.lt;have g0:=a.cell 0;have g1:=a.cell 1;have g2:=a.cell 2;have g3:=a.cell 3;have g4:=a.cell 4;have g5:=a.cell 5;have g6:=a.cell 6;have g7:=a.cell 7;have g8:=a.cell 8;have g9:=a.cell 9;have g10:=a.cell 10;have g11:=a.cell 11;have g12:=a.cell 12;have g13:=a.cell 13;have g14:=a.cell 14;have g15:=a.cell 15;have g16:=a.cell 16;have g17:=a.cell 17;have g18:=a.cell 18;simp at g0 g1 g2 g3 g4 g5 g6 g7 g8 g9 g10 g11 g12 g13 g14 g15 g16 g17 g18;rw[h.out]at g2;have r2:=r1.mono (Zaa b);have l:∀(W:World) (n:Nat) (xs:List UInt8),Blk W n 5 (xs.map encB).toArray→w1.heap.size≤n→xs.length=3→OwnB W w1.heap.size (.slice (some ⟨n,0,none⟩) 3 3) xs:=fun W n xs C hn A=>OwnVec.lit C hn A.symm (by decide)
 clear r r1 g q b;have t:Hid (R.length=6):=by show _=_;rw[i.out];rfl
 go_wp2_with fail;refine(Zf3 _ m.round [5,U1,U2] w1.heap.size _ (l _ _ [5,U1,U2] (Blk.new _ _ _) (Za _) rfl) (by simp) (by omega) (by omega) (by simp)).mono ?_
 rintro e w2 ⟨v2,rfl,k,z,v,_⟩;have u:=(Zac w1 (.cells #[.int .u8 5,.int .u8 U1.toNat,.int .u8 U2.toNat] 5)).trans k;clear g0 g1 g3 g4 g5 g6 g7 g8 g9 g10 g11 g12 g13 g14 g15 g16 g17 g18;go_wp2;go_ret2;exact⟨_,rfl,c.trans (u.mono j),by rw[i.out];exact(v).from_ (bs:=1) (by rw[←i.out];rw[t.out];omega) j⟩
theorem Znv(m:Msg)(vt vb vp vd cb cp cv:Value)(w:World)(r:RMsg w.cell? m vt vb vp vd cb cp cv)(f:∀s∈m.bat.txs,s.size≤140737488355328) :
 Calls prog 26 #[.agg (msgC m vt vb vp vd cb cp cv)] w fun e w'=>∃d,e=.returned (.tuple #[d,.int .i64 (msgF m)])∧Below w.heap.size w w'∧Zan (View.from w'.cell? w.heap.size) d (Zrz m):=by
 by_cases a:msgF m=0
 ·rw[a,show Zrz m=msgB m from if_pos a]
  rcases(msgF_zero a).1 with b|b|b|b|b
  ·exact encode_1 m b a _ _ _ _ _ _ _ w r f
  ·exact encode_2 m b a _ _ _ _ _ _ _ w r f
  ·exact encode_3 m b a _ _ _ _ _ _ _ w r f
  ·exact encode_4 m b a _ _ _ _ _ _ _ w r f
  ·exact encode_5 m b a _ _ _ _ _ _ _ w r f
 ·rw[show Zrz m=[] from if_neg a];obtain⟨E,k⟩:∃E,Hid (msgF m=E):=⟨_,rfl⟩;have n:¬E=0:=by rw[←k.out];exact a
  rw[k.out];clear a;unfold msgC;go_enter func26,ntmps26;go_upto_region 1 with fail;refine Zo fun W j l c=>?_
  have r1:=r.mono (Zaa c);go_wp2_with (refine wpList_load_row rfl 90 _ rfl _ rfl _ _ _ _ j underlying90 rfl (by kernel_rfl) ?_);refine(Zd7 m _ _ _ _ _ _ _ _ r1 f).mono ?_;rintro e w1 ⟨rfl,g⟩;rw[k.out];have i:=c.trans (g.mono c.size);clear r r1 j l g k;go_wp2;go_ret2;exact⟨_,rfl,i,RVec.nil _ _ _⟩
def appF(m:Msg):List UInt8:=[Zaq ((msgB m).length/256:Nat),Zaq ((msgB m).length:Nat)]++msgB m
def appE(l:List UInt8)(a:Int)(m:Msg):Int:=if Zbc l a then(if recF m≠0 then recF m else if 400000<l.length+2+(msgB m).length then 6 else 0)else 12
def appL(l:List UInt8)(a:Int)(m:Msg):List UInt8:=if appE l a m=0 then l++appF m else []
def appA(l:List UInt8)(a:Int)(m:Msg):Int:=if appE l a m=0 then a else 0
theorem Zoe(w:World)(c1 c2 c3:Array Value)(t1 t2 t3:TypeId)(R:World→Prop)(h:∀W,Blk W w.heap.size t1 c1→Blk W (w.heap.size+1) t2 c2→Blk W (w.heap.size+2) t3 c3→w.heap.size+3≤W.heap.size→Below w.heap.size w W→R W):R (((w.alloc (.cells c1 t1)).alloc (.cells c2 t2)).alloc (.cells c3 t3)):=by
 refine h _ (((Blk.new w t1 c1).alloc _).alloc _) ?_ ?_ (by simp) ((((Zm _ _).alloc (Za _) _).alloc (Zar _ (Za _)) _).alloc (Zar _ (Zar _ (Za _))) _)
 ·have:=(Blk.new (w.alloc (.cells c1 t1)) t2 c2).alloc (.cells c3 t3);simpa using this
 ·have:=Blk.new ((w.alloc (.cells c1 t1)).alloc (.cells c2 t2)) t3 c3;simpa using this
theorem Zmq{row:Option Nat}(f:w.grownBy w' row)(c:∀q,row=some q→q<b):VLe (View.from w.cell? b) w'.cell?:=fun a u hu=>by
 unfold View.from at hu
 split at hu
 ·cases hu
 ·rename_i d
  exact f.cell hu (by intro e;have:=c _ e.symm;omega)
theorem ne_own{B:Nat}{xs:List UInt8}(b:OwnB w B v xs){T:TypeId}(hT:T≠5)(a:Blk w g T cs):¬(v.ownBlock=some g):=fun e=>by
 rcases b.own.2 with ⟨rfl,_⟩|⟨g',cap,cur,rfl,_,c,_⟩
 ·cases e
 ·have e1:g'=g:=by simpa[Value.ownBlock]using e
  subst e1
  unfold Blk at a
  rw[c]at a
  injection a with a
  injection a with _ a
  exact hT a.symm
theorem rec_msg(h:recF m=0):msgF m=0:=by
 unfold recF at h;split at h
 ·rename_i a;exact absurd h a
 ·rename_i a;exact Classical.not_not.1 a
theorem msgB_len(h:msgF m=0):(msgB m).length≤400:=by
 unfold msgB Zdo
 rcases(msgF_zero h).1 with a|a|a|a|a
 ·obtain⟨q0,q1,q2⟩:=batchF_zero (body_1 a h);simp only[a,if_true,Zl,Zu,List.length_nil,batchB_len];omega
 ·obtain⟨q0,q1,q2,q3⟩:=headF_zero (body_2 a h);rw[if_neg (by omega),if_pos a];simp only[Zl,Zu,List.length_nil,headerB_len];omega
 ·obtain⟨q0,q1,q2⟩:=slotF_zero (body_3 a h);rw[if_neg (by omega),if_neg (by omega),if_pos a];simp only[Zl,Zu,List.length_nil,Zca];omega
 ·obtain⟨q0,q1,q2,q3,q4,q5,q6⟩:=certF_zero (body_4 a h);rw[if_neg (by omega),if_neg (by omega),if_neg (by omega),if_pos a];simp only[Zl,Zu,List.length_nil,headerB_len,List.length_map];omega
 ·rw[if_neg (by omega),if_neg (by omega),if_neg (by omega),if_neg (by omega)];simp only[Zl,Zu,List.length_nil,Zca];omega
theorem Zn2(a:Int)(v:Value)(l:List UInt8)(m:Msg)(vt vb vp vd cb cp cv:Value)(w:World)(hv:Zan w.cell? v l)(r:RMsg w.cell? m vt vb vp vd cb cp cv)(hs:∀s∈m.bat.txs,s.size≤140737488355328) :
 Calls prog 181 #[.agg #[v,.int .i64 a],.agg (msgC m vt vb vp vd cb cp cv)] w fun e w'=>∃d,e=.returned (.tuple #[.agg #[d,.int .i64 (appA l a m)],.int .i64 (appE l a m)])∧Below w.heap.size w w'∧Zan (View.from w'.cell? w.heap.size) d (appL l a m):=by
 obtain⟨A,c,rfl,hl⟩:=id hv;have gr:l.length≤140737488355328:=by omega
 clear hl;obtain⟨⟨tA,tc,rfl⟩,⟨bA,bc,rfl⟩,⟨pA,pc,rfl⟩,⟨dA,dc,rfl⟩,⟨cA,cc,rfl⟩,⟨qA,qc,rfl⟩,⟨vA,vc,rfl⟩⟩:=r.forms;have h1:Hid (appE l a m=if Zbc l a then(if recF m≠0 then recF m else if 400000<l.length+2+(msgB m).length then 6 else 0)else 12):=rfl;have f:Hid (appA l a m=if appE l a m=0 then a else 0):=rfl;have b:Hid (appL l a m=if appE l a m=0 then l++appF m else []):=rfl;obtain⟨QE,hk⟩:∃q,Hid (appE l a m=q):=⟨_,rfl⟩;obtain⟨QA,ho⟩:∃q,Hid (appA l a m=q):=⟨_,rfl⟩;obtain⟨QL,hw⟩:∃q,Hid (appL l a m=q):=⟨_,rfl⟩;rw[hk.out,ho.out,hw.out];rw[hk.out]at h1 f b;rw[ho.out]at f;rw[hw.out]at b;have Hv:=Zb hv;have Hs:=Zb hs;clear hk ho hw hv hs;unfold msgC;go_enter func181,ntmps181;go_upto_region 1 with fail;refine Zoe _ _ _ _ _ _ _ (fun W=>Code.wp _ _ _ _ W) (fun W ht gg gc s7 E=>?_);have hz:=E.size;have rW:=r.mono (Zaa E);have g0:=ht.cell 0;have g1:=ht.cell 1;simp at g0 g1;clear r;cases hm:Zbc l a
 ·have p:Hid (QE=12):=by show _=_;rw[h1.out,hm];rfl
  have HA:Hid (QA=0):=by show _=_;rw[f.out,p.out];rfl
  have HL:Hid (QL=[]):=by show _=_;rw[b.out,p.out];rfl
  go_wp2_with fail;refine(Zw9 _ _ _ _ _ gr hm).mono ?_
  rintro e w1 ⟨rfl,i⟩;have u:=gc.kept i;have j:=E.trans (i.mono hz);have J:=j.size;go_wp2_with (refine Zj 2 (u.alloc _) ?_);intro w2 gh gn;go_wp2;refine bodyPost_ret (Zag rfl rfl (by kernel_rfl) (by kernel_rfl) gh rfl) rfl ?_;exact⟨_,by rw[p.out,HA.out];rfl,Zab (j.alloc J _) (Zar _ J) gn (by intro k e;injection e;omega),by rw[HL.out];exact RVec.nil _ _ _⟩
 ·have Hm:=Zb hm;have V:Hid (QE=if recF m≠0 then recF m else if 400000<l.length+2+(msgB m).length then 6 else 0):=by show _=_;rw[h1.out,hm];rfl
  have s4:l.length≤400000:=by simp[Zbc]at hm;omega
  clear hm h1;go_wp2_with fail;refine(Zin _ _ l _ (Hv.out.mono (Zaa E)) Hm.out).mono ?_;rintro e w1 ⟨d1,rfl,i,o1⟩;obtain⟨A1,c1,rfl⟩:=o1.form;have hb:=gg.kept i;have u:=gc.kept i;have j:=E.trans (i.mono hz);have J:=j.size;have gb:=i.size;clear g0 g1 ht;go_upto_region 4 with fail;refine Zo fun W6 h6 gq o=>?_
  clear gq;have gs:w.heap.size≤W6.heap.size:=Zg J o.size;have g4:W.heap.size≤W6.heap.size:=Zg gb o.size;have g5:=j.trans (o.mono J);have o6:=o1.kept o;have O:=hb.kept o;have h9:=u.kept o;have r6:=(rW.mono (Zaa i)).mono (Zaa o);clear o1 hb u i o rW;go_wp2_with (refine wpList_load_row rfl 90 _ rfl _ rfl _ _ _ _ O underlying90 rfl (by kernel_rfl) ?_);refine(Zie m _ _ _ _ _ _ _ _ r6 Hs.out).mono ?_;rintro e w7 ⟨rfl,t⟩;have S:=g5.trans (t.mono gs);have g9:=S.size;have hy:=Zg g4 t.size;have g2:=h6.kept t;have o7:=o6.kept t;have H:=O.kept t;have Q:=h9.kept t;have r7:=r6.mono (Zaa t);clear o6 O h9 h6 r6;obtain⟨RF,I⟩:∃q,Hid (recF m=q):=⟨_,rfl⟩;rw[I.out];rw[I.out]at V
  by_cases C:RF=0
  ·have hn:=Zb (rec_msg (I.out.trans C));have HB:=Zb (msgB_len hn.out);have z:Hid (QE=if 400000<l.length+2+(msgB m).length then 6 else 0):=by show _=_;rw[V.out,C];rfl
   clear V I;subst C;go_wp2_with (refine wpList_load_row rfl 90 _ rfl _ rfl _ _ _ _ H underlying90 rfl (by kernel_rfl) ?_);refine(Znv m _ _ _ _ _ _ _ _ r7 Hs.out).mono ?_;rintro e w8 ⟨d2,rfl,T,h⟩;rw[hn.out];have U:=S.trans (T.mono g9);have gp:=U.size;have gd:=Zg hy T.size;have h0:=g2.kept T;have o8:=o7.kept T;have R:=Q.kept T;have hF:Hid (appF m=[Zaq ((msgB m).length/256:Nat),Zaq ((msgB m).length:Nat)]++msgB m):=rfl;have h8:=fun q hq=>(o7.own.lt q hq).2
   rw[show Zrz m=msgB m from if_pos hn.out]at h;clear o7 H Q g2 r7;generalize appF m=F at hF b;generalize msgB m=B at HB z hF h;have gm:=HB.out;obtain⟨B2,c2,rfl,gu⟩:=id h;clear gu;have e1:=Zaw ((B.length/256:Nat):Int);have e2:=Zaw (B.length:Nat);generalize Zaq ((B.length/256:Nat):Int)=U1 at e1 hF;generalize Zaq (B.length:Nat)=U2 at e2 hF;obtain⟨nb,Y⟩:∃n,Hid (B.length=n):=⟨_,rfl⟩;obtain⟨nl,s3⟩:∃n,Hid (l.length=n):=⟨_,rfl⟩;rw[Y.out]at e1 e2 z gm h⊢;have ha:=h0.cell 0;have h7:=h0.cell 1;simp at ha h7
   by_cases G:400000<l.length+2+nb
   ·have p:Hid (QE=6):=by show _=_;rw[z.out,if_pos G]
    have HA:Hid (QA=0):=by show _=_;rw[f.out,p.out];rfl
    have HL:Hid (QL=[]):=by show _=_;rw[b.out,p.out];rfl
    have h2:(400000:Int)<l.length+2+nb:=by omega
    clear z f b e1 e2 o8;go_wp2_with (refine Zj 2 R ?_);intro w9 gw D;go_wp2;refine bodyPost_ret (Zag rfl rfl (by kernel_rfl) (by kernel_rfl) gw rfl) rfl ?_;exact⟨_,by rw[p.out,HA.out];rfl,Zab U gp D (by intro k e;injection e;omega),by rw[HL.out];exact RVec.nil _ _ _⟩
   ·have p:Hid (QE=0):=by show _=_;rw[z.out,if_neg G]
    have HA:Hid (QA=a):=by show _=_;rw[f.out,p.out];rfl
    have HL:Hid (QL=l++F):=by show _=_;rw[b.out,p.out];rfl
    have h2:¬(400000:Int)<l.length+2+nb:=by omega
    clear z f b;have e1':IntKind.u8.wrap ((nb:Int)/256)=(U1.toNat:Int):=by rw[←e1];congr 1
    have Z:W.heap.size≤w8.heap.size:=gd
    go_wp2_with (at_builtin;first
     |(refine Zcg (n:=140737488355328) (xs:=l) (ys:=[U1,U2]) Za7 Zb0 _ _ rfl rfl rfl (o8.alloc _) (Zar _ Z) rfl (Zpc (xs:=[U1,U2]) (Blk.new _ _ _) (by simp) (by simp)) (by decide) (by simp;omega) (by simp;omega) ?_))
    intro v9 w9 o9 D hr;clear hr;have hp:=(Zcr w8 (.cells #[encB U1,encB U2] 5)).trans (Zat (o8.alloc _) D);have h5:Below W.heap.size w8 w9:=((Zm _ _).alloc Z _).grown D (Zar _ Z) (fun g hg=>(o8.own.lt g hg).1);have g6:=hp _ _ _ (by decide) h0;have h4:=hp _ _ _ (by decide) R;have hf:w8.grownBy w9 (Value.slice A1 l.length c1).ownBlock:=Zae (World.grownBy_alloc w8 _ _) D;have r9:Zan w9.cell? (.slice B2 nb c2) B:=h.mono (Zmq hf h8);have hx:W.heap.size≤w9.heap.size:=Zg Z h5.size;clear h D hf h8 h0 R hp o8 ha h7;have g7:(l++[U1,U2]).length=l.length+2:=by simp
    go_wp2_with (at_builtin;first
     |(refine Zcg (n:=140737488355328) (xs:=l++[U1,U2]) (ys:=B) Za7 Zb0 _ _ rfl rfl rfl o9 hx rfl r9 (by decide) (by rw[g7,Y.out];omega) (by rw[g7,Y.out];omega) ?_))
    intro v10 w10 o10 K X;clear X;have N:=Zat o9 K;have P:Below W.heap.size w9 w10:=(Zm _ _).grown K hx (fun g hg=>(o9.own.lt g hg).1);have M:=N _ _ _ (by decide) g6;have L:=N _ _ _ (by decide) h4;have o10:OwnB w10 W.heap.size v10 QL:=by rw[HL.out,hF.out];simpa using o10
    have g8:Below w.heap.size w w10:=(U.trans (h5.mono (by omega))).trans (P.mono (by omega));have s8:QL.length≤400002:=by rw[HL.out,hF.out];simp only[Zl,Zu,List.length_nil];rw[Y.out];omega
    obtain⟨A10,c10,rfl⟩:=o10.form;clear o9 K r9 g6 h4 N;have s0:W.heap.size≤w10.heap.size:=Zg hx P.size;go_wp2_with (refine Zaj (n:=1) rfl rfl rfl rfl (by kernel_rfl) rfl M (by simp) rfl ?_);intro w11 y x;have y:Blk w11 w1.heap.size 110 #[.slice A10 QL.length c10,.int .i64 a]:=y;have hh:=L.grown x (by simp;omega);have o11:OwnB w11 W.heap.size (.slice A10 QL.length c10) QL:=⟨o10.own.kept x (.inr (ne_own o10 (by decide) M))⟩;have he:Below w.heap.size w w11:=Zab g8 (by omega) x (by intro k e;injection e;omega);clear x M L o10;have f0:=y.cell 0;have f1:=y.cell 1;simp at f0 f1;have ga:=he.size;go_wp2_with (refine Zj 2 hh ?_);intro w12 g3 h3;have o12:=o11.grown h3 (by omega);go_wp2;refine bodyPost_ret (Zag rfl rfl (by kernel_rfl) (by kernel_rfl) g3 rfl) rfl ?_;exact⟨_,by rw[p.out,HA.out];rfl,Zab he ga h3 (by intro k e;injection e;omega),o12.from_ (bs:=1) (by omega) hz⟩
  ·have p:Hid (QE=RF):=by show _=_;rw[V.out,if_pos C]
   have HA:Hid (QA=0):=by show _=_;rw[f.out,p.out,if_neg C]
   have HL:Hid (QL=[]):=by show _=_;rw[b.out,p.out,if_neg C]
   clear f b V I o7 H r7;go_wp2_with (refine Zj 2 Q ?_);intro w8 gj gf;go_wp2;refine bodyPost_ret (Zag rfl rfl (by kernel_rfl) (by kernel_rfl) gj rfl) rfl ?_;exact⟨_,by rw[p.out,HA.out];rfl,Zab S g9 gf (by intro k e;injection e;omega),by rw[HL.out];exact RVec.nil _ _ _⟩
end Go.Proofs.YtbcpbnfojfiekaaGreatDoor
