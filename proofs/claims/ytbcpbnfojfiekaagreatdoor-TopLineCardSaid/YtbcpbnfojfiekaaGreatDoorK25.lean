/- A part of what the last text stands on. -/
import Derived.Test.YtbcpbnfojfiekaaGreatDoorK23
import Derived.Test.YtbcpbnfojfiekaaGreatDoorK24
namespace Go.Proofs.YtbcpbnfojfiekaaGreatDoor
open Go.ChangeShapes Go.WideShapes Go.ChangeAt Go.RowKit Go.Proofs.Tryz Qa Qb Qc
set_option linter.all false
set_option maxHeartbeats 20000000
set_option maxRecDepth 100000
variable{h:View}{m:Msg}{f:Fl.Ft}{n:Fl.Nd}{signs:List Sign}
namespace Fl
theorem Zko{b:Bat}{vt:Value}(r:RTexts h vt b.txs):RMsg h (batM b) vt (.slice none 0 0) (.slice none 0 0) (.slice none 0 0) (.slice none 0 0) (.slice none 0 0) (.slice none 0 0) :=
 ⟨r,RDigs.nil _,RDigs.nil _,RVec.nil _ _ _,RDigs.nil _,RDigs.nil _,RVec.nil _ _ _⟩
theorem Zk6(i tb g off:Nat)(n:Nd)(b:Bat)(wr:Bool)(vt:Value)(o:Own)(w:World)(Q:Lim o w)(hi:i<5)(hN:NodeAt o w i tb g off n)(hT:Tabs (Zas o w))(hb:RTexts (Zas o w) vt b.txs)(hs:∀s∈b.txs,s.size≤140737488355328)(h8:n.digs.length≤800)(h9:n.bats.length≤800) :
 Calls prog 94 #[.pointer (some ⟨g,off,none⟩),.agg #[.int .i64 b.author,.int .i64 b.number,vt],.bool wr] w fun e w'=>e=.returned (.bool (store n b wr).2)∧∃o',NFr i tb g off o w o' w'∧NodeAt o' w' i tb g off (store n b wr).1:=by
 have hg:=hN.lt;have hw:=hN.mark;have Z:=Zb hs;clear hs;obtain⟨vA,vc,rfl,r⟩:=id hb;clear r;obtain⟨H,hH⟩:∃q,Hid (held n (bdR b)=q):=⟨_,rfl⟩
 have R:Hid (store n b wr=if 0≤H∨n.bats.length=800 then(n,false)else if wr then(if Zfr n (batM b)=0 then(put (kept n (batM b)) b,true)else(n,false))else(put n b,true)):=by
  show _=_;unfold Fl.store;rw[hH.out]
 rw[R.out];clear R;go_enter func94,ntmps94;go_upto_region 1 with fail;refine Zo fun W X hq u=>?_
 have g0:=X.cell 0;have g1:=X.cell 1;have g2:=X.cell 2;simp at g0 g1 g2;have v1:=Zaf Q u;have l1:=Zam Q u;have N1:=hN.below Q u;have rb1:=hb.mono v1;have T1:=hT.mono v1;go_wp2_with fail;refine(Zkl b.author b.number _ b.txs _ (rb1.mono (Zah _ _)) Z.out (T1.mono (Zah _ _))).mono ?_;rintro e w2 ⟨dg,rfl,v,rd⟩;rw[show Zvq b.author b.number b.txs=bdR b from rfl]at rd;have v2:=Zaf l1 v;have l2:=Zam l1 v;have N2:=N1.below l1 v;have rb2:=rb1.mono v2;have rd2:=rd.mono (Zbz l1);have V:=X.kept v;have G:=u.trans (v.mono u.size);have F2:NFr i tb g off o w o w2:=(NFr.refl Q).below G;obtain⟨dA,dc,rfl,r⟩:=id rd2;clear r rd hb rb1 T1 N1 v1 g0 g1 g2 X hN hT;obtain⟨DL,ha⟩:∃q,Hid ((bdR b).length=q):=⟨_,rfl⟩;rw[ha.out]at rd2⊢;go_wp2_with fail;refine(Zg9 i tb g off n _ (bdR b) o _ N2 (rd2.mono (Zah _ _)) h8).mono ?_;rintro e w3 ⟨rfl,x⟩;have v3:=Zaf l2 x;have l3:=Zam l2 x;have N3:=N2.below l2 x;have rb3:=rb2.mono v3;have rd3:=rd2.mono v3;have m:=V.kept x;have F3:=F2.below x;rw[hH.out];clear rb2 rd2 N2 F2 V v2 v3 G u v x l2 l1;obtain⟨Y,⟨vtx,vba,vdi,vta,vda,vow,vmi,vvo,vtp,vou⟩,S3,R3⟩:=id N3;obtain⟨bA,bc,B⟩:=R3.ba.form;have B:vba=.slice bA n.bats.length bc:=B;subst B;have s4:=S3.nd4;simp only at s4
 by_cases O:0≤H
 ·go_wp2;go_ret;simp only[O,true_or,if_true];exact⟨rfl,o,F3,N3⟩
 by_cases N:n.bats.length=800
 ·have S:(n.bats.length:Int)=800:=by omega
  go_wp2
  all_goals
   go_ret;simp only[N,or_true,if_true];exact⟨rfl,o,F3,N3⟩
 have S:¬(n.bats.length:Int)=800:=by omega
 have hp:((n.bats.length:Int)==800)=false:=by simpa using S
 have hr:Hid (¬(0≤H∨n.bats.length=800)):=fun q=>q.elim O N
 have hv:∀{o':Own},True:=fun {_}=>trivial
 cases wr
 ·have N4:=N3;have rb4:=rb3;have rd4:=rd3;have z:=m;have l4:=l3;have F4:=F3;have o4_none:=Q.none w.heap.size (Za _);obtain⟨w4,h6⟩:∃w4:World,w4=w3:=⟨_,rfl⟩;subst h6;clear N3 rb3 rd3 m l3 F3 Y R3;obtain⟨d,⟨ytx,yba,ydi,yta,yda,yow,ymi,yvo,ytp,you⟩,S4,R4⟩:=N4;obtain⟨bA4,bc4,c⟩:=R4.ba.form;have c:yba=.slice bA4 n.bats.length bc4:=c;subst c;obtain⟨dA4,dc4,a⟩:=R4.di.form;have a:ydi=.slice dA4 n.digs.length dc4:=a;subst a;have U:=S4.lt;go_upto_region 4 with fail;refine Zt (fun w'=>Below w4.heap.size w4 w') (fun w'=>Blk w' w.heap.size 82 #[.int .i64 b.author,.int .i64 b.number,.slice vA b.txs.length vc]∧w'.cell? ⟨g,off+4,none⟩=some (.slice bA4 n.bats.length bc4)) [10] (.q 0 (.q 1 (.q 2 (.q 3 (.q 4 (.q 5 (.l 6 (.l 7 (.q 8 (.q 9 (.l 10 .nil))))))))))) ?_ ?_
  ·exact⟨Zad _,z.drew,S4.nd4⟩
  intro W5 y f;have f5:=Fr.of_below (T:=fun _=>False) l4 y;have S5:=S4.fr f5 d (fun h=>h);have R5:=R4.fr f5 (fun _ h=>h);have F5:=F4.below y;have rb5:=rb4.mono f5.view;have rd5:=rd4.mono f5.view;have l5:=f5.lim;have C:=f.1
  repeat((first|refine pq (h:=⟨_,fun w' f=>by(have h0:=f.2;have J:=f.1;have O:=J.cell 0;have N:=J.cell 1;have h3:=J.cell 2;simp at O N h3;go_simp;exact rfl),?_⟩)|refine Zq ?_);simp only[sx])
  refine Zd fun K j=>?_
  try simp only[sy]
  go_simp;have E:=Zac W5 (.cells #[.int .i64 b.author,.int .i64 b.number,.slice vA b.txs.length vc] 82);refine j.out _ _ (⟨f.1.kept E,Zaa E _ _ f.2⟩) fun f=>?_
  clear j K
  try simp only[sx]
  repeat(refine Zq ?_;simp only[sx])
  refine Zd fun K j=>?_
  try simp only[sy]
  refine Zcf (n:=140737488355328) RBat.mono b [.int .i64 b.author,.int .i64 b.number,.slice vA b.txs.length vc] Zso _ _ rfl rfl R5.ba l5 (by simp;omega) rfl rfl rfl rfl ⟨_,rfl,rb5,Z.out⟩ (Za _) (show(n.bats.length+1)*40≤140737488355328 by omega) (show n.bats.length+1≤140737488355328 by omega) (fun v' w6 o6 r6 f6=>?_);have S6:=S5.fr f6 d (by simp;omega);have m6:=Zb6 S5.lt f6 d (by simp;omega);have R6:=R5.ba' f6 r6;have F6:=F5.step d f6 (fun t ht=>.inl (by rw[ht])) (by omega);have rd6:=rd5.mono f6.view;obtain⟨A6,c6,I⟩:=r6.form;subst I;have D:=Za3 C f6 (o4_none);refine j.out _ _ (⟨D,S6.nd4⟩) fun f=>?_
  clear j K
  try simp only[sx]
  repeat(refine Zq ?_;simp only[sx])
  refine Zc fun K j=>?_
  try simp only[sy]
  refine Sec.wp_store S6 (i:=4) [.slice A6 (n.bats++[b]).length c6] (show 4+1≤15 by decide) rfl rfl rfl (by kernel_rfl) rfl rfl ?_;intro w7 S7 p h7;have R7:=R6.fr (Zap F6.fr.lim p m6) (fun k e=>by injection e;omega);have F7:=F6.store m6 p h7 (show 4+1≤15 by decide);have S7:Sec w7 g off (ndC {n with bats:=n.bats++[b] } _):=S7.putBa;have rd7:=rd6.mono (Zap F6.fr.lim p m6).view;have s75:=S7.nd5;simp only at s75;refine j.out _ _ ?_;clear j K
  try simp only[sx]
  repeat(refine Zq ?_;simp only[sx])
  refine Zai ?_;clear S3 S4 S5 S6 R4 R5 R6 z C D rb4 rb5 rd4 rd5 rd6 l5;go_wp2_with (at_builtin;go_loud (refine Zcw (n:=140737488355328) Ze (bdR b) [.slice dA DL dc] Ze2 _ _ rfl rfl rfl R7.di F7.fr.lim (by simp;omega) rfl rfl rfl rfl ⟨_,rfl,rd7⟩ (Za _) (show(n.digs.length+1)*24≤140737488355328 by omega) (show n.digs.length+1≤140737488355328 by omega) ?_));intro v' w8 o8 r8 f8;have S8:=S7.fr f8 m6 (by simp;omega);have m8:=Zb6 S7.lt f8 m6 (by simp;omega);have R8:=R7.di' f8 r8;have F8:=F7.step m6 f8 (fun t ht=>.inl (by rw[ht])) (by omega);obtain⟨A8,c8,M⟩:=r8.form;subst M;go_wp2_with (refine Sec.store S8 (i:=5) [.slice A8 (n.digs++[bdR b]).length c8] (show 5+1≤15 by decide) rfl rfl rfl rfl (by kernel_rfl) rfl rfl ?_);intro w9 S9 A h9;have R9:=R8.fr (Zap F8.fr.lim A m8) (fun k e=>by injection e;omega);have F9:=F8.store m8 A h9 (show 5+1≤15 by decide);go_wp2;go_ret
  (try simp only[Zl,List.length_singleton]at R9 S9)
  exact⟨rfl,o8,F9,m8,_,S9.putDi,R9⟩
 ·have g0:=m.cell 0;have g1:=m.cell 1;have g2:=m.cell 2;simp at g0 g1 g2;go_wp2_with fail;refine(Zkq i tb g off n (batM b) _ _ _ _ _ _ _ o _ l3 hi N3 (Zko rb3) Z.out).mono ?_;rintro e w4 ⟨rfl,o4,F34,N4⟩;have F:Fl.keep n (batM b)=if Zfr n (batM b)=0 then(kept n (batM b),true)else(n,false):=rfl
  by_cases P:Zfr n (batM b)=0
  ·rw[F,if_pos P]at N4⊢;have F4:=F3.trans F34;have rb4:=rb3.mono F34.fr.view;have rd4:=rd3.mono F34.fr.view;have L:=Q.none w.heap.size (Za _);have z:=Za3 m F34.fr L;have o4_none:=((F34.fr.keep w.heap.size m.lt (fun t ht=>by rw[L]at ht;cases ht)).1).trans L;have l4:=F34.fr.lim;have H4:=Zb P;clear N3 rb3 rd3 m l3 F3 Y R3 F34 F P;obtain⟨d,⟨ytx,yba,ydi,yta,yda,yow,ymi,yvo,ytp,you⟩,S4,R4⟩:=N4;obtain⟨bA4,bc4,c⟩:=R4.ba.form;have c:yba=.slice bA4 n.bats.length bc4:=c;subst c;obtain⟨dA4,dc4,a⟩:=R4.di.form;have a:ydi=.slice dA4 n.digs.length dc4:=a;subst a;have U:=S4.lt;go_upto_region 4 with fail;refine Zt (fun w'=>Below w4.heap.size w4 w') (fun w'=>Blk w' w.heap.size 82 #[.int .i64 b.author,.int .i64 b.number,.slice vA b.txs.length vc]∧w'.cell? ⟨g,off+4,none⟩=some (.slice bA4 n.bats.length bc4)) [10] (.q 0 (.q 1 (.q 2 (.q 3 (.q 4 (.q 5 (.l 6 (.l 7 (.q 8 (.q 9 (.l 10 .nil))))))))))) ?_ ?_
   ·exact⟨Zad _,z.drew,S4.nd4⟩
   intro W5 y f;have f5:=Fr.of_below (T:=fun _=>False) l4 y;have S5:=S4.fr f5 d (fun h=>h);have R5:=R4.fr f5 (fun _ h=>h);have F5:=F4.below y;have rb5:=rb4.mono f5.view;have rd5:=rd4.mono f5.view;have l5:=f5.lim;have C:=f.1
   repeat((first|refine pq (h:=⟨_,fun w' f=>by(have h0:=f.2;have J:=f.1;have O:=J.cell 0;have N:=J.cell 1;have h3:=J.cell 2;simp at O N h3;go_simp;exact rfl),?_⟩)|refine Zq ?_);simp only[sx])
   refine Zd fun K j=>?_
   try simp only[sy]
   go_simp;have E:=Zac W5 (.cells #[.int .i64 b.author,.int .i64 b.number,.slice vA b.txs.length vc] 82);refine j.out _ _ (⟨f.1.kept E,Zaa E _ _ f.2⟩) fun f=>?_
   clear j K
   try simp only[sx]
   repeat(refine Zq ?_;simp only[sx])
   refine Zd fun K j=>?_
   try simp only[sy]
   refine Zcf (n:=140737488355328) RBat.mono b [.int .i64 b.author,.int .i64 b.number,.slice vA b.txs.length vc] Zso _ _ rfl rfl R5.ba l5 (by simp;omega) rfl rfl rfl rfl ⟨_,rfl,rb5,Z.out⟩ (Za _) (show(n.bats.length+1)*40≤140737488355328 by omega) (show n.bats.length+1≤140737488355328 by omega) (fun v' w6 o6 r6 f6=>?_);have S6:=S5.fr f6 d (by simp;omega);have m6:=Zb6 S5.lt f6 d (by simp;omega);have R6:=R5.ba' f6 r6;have F6:=F5.step d f6 (fun t ht=>.inl (by rw[ht])) (by omega);have rd6:=rd5.mono f6.view;obtain⟨A6,c6,I⟩:=r6.form;subst I;have D:=Za3 C f6 (o4_none);refine j.out _ _ (⟨D,S6.nd4⟩) fun f=>?_
   clear j K
   try simp only[sx]
   repeat(refine Zq ?_;simp only[sx])
   refine Zc fun K j=>?_
   try simp only[sy]
   refine Sec.wp_store S6 (i:=4) [.slice A6 (n.bats++[b]).length c6] (show 4+1≤15 by decide) rfl rfl rfl (by kernel_rfl) rfl rfl ?_;intro w7 S7 p h7;have R7:=R6.fr (Zap F6.fr.lim p m6) (fun k e=>by injection e;omega);have F7:=F6.store m6 p h7 (show 4+1≤15 by decide);have S7:Sec w7 g off (ndC {kept n (batM b)with bats:=n.bats++[b] } _):=S7.putBa;have rd7:=rd6.mono (Zap F6.fr.lim p m6).view;have s75:=S7.nd5;simp only at s75;refine j.out _ _ ?_;clear j K
   try simp only[sx]
   repeat(refine Zq ?_;simp only[sx])
   refine Zai ?_;clear S3 S4 S5 S6 R4 R5 R6 z C D rb4 rb5 rd4 rd5 rd6 l5;go_wp2_with (at_builtin;go_loud (refine Zcw (n:=140737488355328) Ze (bdR b) [.slice dA DL dc] Ze2 _ _ rfl rfl rfl R7.di F7.fr.lim (by simp;omega) rfl rfl rfl rfl ⟨_,rfl,rd7⟩ (Za _) (show(n.digs.length+1)*24≤140737488355328 by omega) (show n.digs.length+1≤140737488355328 by omega) ?_));intro v' w8 o8 r8 f8;have S8:=S7.fr f8 m6 (by simp;omega);have m8:=Zb6 S7.lt f8 m6 (by simp;omega);have R8:=R7.di' f8 r8;have F8:=F7.step m6 f8 (fun t ht=>.inl (by rw[ht])) (by omega);obtain⟨A8,c8,M⟩:=r8.form;subst M;go_wp2_with (refine Sec.store S8 (i:=5) [.slice A8 (n.digs++[bdR b]).length c8] (show 5+1≤15 by decide) rfl rfl rfl rfl (by kernel_rfl) rfl rfl ?_);intro w9 S9 A h9;have R9:=R8.fr (Zap F8.fr.lim A m8) (fun k e=>by injection e;omega);have F9:=F8.store m8 A h9 (show 5+1≤15 by decide);go_wp2;go_ret;simp only[H4.out,if_true]
   (try simp only[Zl,List.length_singleton]at R9 S9)
   exact⟨rfl,o8,F9,m8,_,S9.putDi,R9⟩
  ·rw[F,if_neg P]at N4⊢;have H4:=Zb P;clear F;go_wp2;go_ret
   first
    |exact⟨rfl,o4,F3.trans F34,N4⟩
    |(simp only[P,if_false];exact⟨rfl,o4,F3.trans F34,N4⟩)
section
variable {signs:List Sign} {rogue k:Int} {n:Nd} {ms:List Msg} {j:Nat}
theorem Zer(n:Nd)(tw:Int)(m:Msg):(send n tw m).table=n.table∧(send n tw m).own=n.own∧(send n tw m).voters=n.voters∧(send n tw m).dag=n.dag∧(send n tw m).up=n.up∧(send n tw m).turn=n.turn∧(send n tw m).me=n.me:=by
 unfold Fl.send;split<;>exact⟨rfl,rfl,rfl,rfl,rfl,rfl,rfl⟩
theorem Zi8(m:Msg):∀(l:List Int) (n:Nd),(l.foldl (Zco m) n).up=n.up∧(l.foldl (Zco m) n).dag=n.dag∧(l.foldl (Zco m) n).own=n.own∧(l.foldl (Zco m) n).table=n.table∧(l.foldl (Zco m) n).me=n.me
 |[],n=>⟨rfl,rfl,rfl,rfl,rfl⟩
 |i::l,n=>by
  rw[List.foldl_cons]
  obtain⟨a,e,d,b,c⟩:=Zi8 m l (Zco m n i)
  have:(Zco m n i).up=n.up∧(Zco m n i).dag=n.dag∧(Zco m n i).own=n.own∧(Zco m n i).table=n.table∧(Zco m n i).me=n.me:=by
   unfold Zco;split
   ·obtain⟨q1,q2,q3,q4,q5,q6,q7⟩:=Zer n i m
    exact⟨q5,q4,q2,q1,q7⟩
   ·exact⟨rfl,rfl,rfl,rfl,rfl⟩
  obtain⟨p1,p2,p3,p4,p5⟩:=this
  exact⟨a.trans p1,e.trans p2,d.trans p3,b.trans p4,c.trans p5⟩
theorem Zs4(n:Nd)(b:Bat)(w:Bool):(store n b w).1.up=n.up:=by
 unfold Fl.store kept put;split<;>(try split)<;>(try split)<;>rfl
theorem NI.other(h:NI signs rogue k n ms j){n':Nd}(e1:n'.tl=n.tl)(e2:n'.ty=n.ty)(e3:Fl.core n'=Fl.core n)(e4:n'.me=n.me)(e5:n'.own=n.own)(e6:n'.mine=n.mine)(e8:n'.voters=n.voters)(e9:n'.out=n.out)(e10:0≤n'.turn∧n'.turn≤3)(e7:n'.up=false→n.up=false):NI signs rogue k n' ms j:=by
 have et:n'.table=n.table:=congrArg Co.table e3;exact⟨⟨h.tap.good,by rw[e1];exact h.tap.tl,by rw[e1];exact h.tap.short,h.tap.jl,by rw[e2];exact h.tap.ty⟩,h.recs,by rw[e3];exact h.core,by rw[e4];exact h.me,h.kr,by rw[e5,e6,et];exact h.own,by rw[e8,e5];exact h.voters,by rw[e8];exact h.once,by rw[e9,et];exact h.out,e10,fun q=>h.down (e7 q),by rw[et,e5];exact h.last⟩
theorem NI.work1(h:NI signs rogue k n ms j)(a:n.up=true):∃ms',ms <+: ms'∧NI signs rogue k (work1 n) ms' j:=by
 obtain⟨ms',p1,p2⟩:=h.store a (Zii n);unfold Fl.work1;split
 ·refine⟨ms',p1,?_⟩;generalize (Fl.store n (Zii n) true).1=q at p2⊢;have p3:NI signs rogue k {q with nx:=Zho n.nx n.txs n.me,txs:=Zdm n.nx n.txs n.me } ms' j:=p2.other (n:=q) rfl rfl rfl rfl rfl rfl rfl rfl p2.turn (fun q=>q);have p4:Zt1 k {q with nx:=Zho n.nx n.txs n.me,txs:=Zdm n.nx n.txs n.me } (batM (Zii n)):=⟨kno rfl,kno rfl⟩;exact p3.tell p4
 ·split
  ·exact⟨ms',p1,p2⟩
  ·exact⟨ms,List.prefix_refl _,h⟩
theorem NI.propose(h:NI signs rogue k n ms j)(l:n.up=true)(round:Int)(a:∀s∈n.table,s.author=k→s.round<round):∃ms',ms <+: ms'∧NI signs rogue k (propose n round) ms' j:=by
 unfold Fl.propose;split
 ·exact⟨ms,List.prefix_refl _,h⟩
 ·rename_i hn;simp only[not_or,ne_eq,Decidable.not_not]at hn;obtain⟨f,m⟩:=hn;obtain⟨q1,q2,q3,q4⟩:=Zeu f;obtain⟨r1,r2,r3,r4⟩:=Zhg f;have i:(Zd5 n round).author=k:=h.me;obtain⟨t1,t2⟩:=Zjm h.tap m;refine⟨ms++[offM (Zd5 n round)],List.prefix_append _ _,NI.tell ?_ ⟨fun _=>⟨i,q2,r2⟩,kno rfl⟩⟩;refine⟨⟨t2.good,t2.tl,t2.short,t2.jl,t2.ty⟩,h.recs.snoc ⟨fun _=>⟨i,by rw[←h.table];exact f⟩,kno rfl,kno rfl,kno rfl,fun _=>by rw[←h.table];exact a,kno rfl⟩,?_,h.me,h.kr,?_,?_,?_,?_,h.turn,?_,?_⟩
  ·rw[Zma,←h.core];unfold Ze4;rw[if_neg (kno rfl:¬(offM (Zd5 n round)).kind=1),if_pos (show(offM (Zd5 n round)).kind=2 from rfl)];rw[if_pos (show Ze5 (Fl.core n).table (offM (Zd5 n round)).hdr=0 from f)];rfl
  ·intro x c;injection c with c;subst c;refine⟨i,q2,?_,r2⟩;show(Zcz n.table (Zd5 n round)).digest=_;rw[q3];rfl
  ·intro v g;rw[Zv g];exact .inl h.me
  ·refine⟨List.pairwise_singleton _ _,fun v g=>?_⟩;rw[Zv g,h.me];exact h.kr
  ·exact fun x c=>(h.out x c).mono r3
  ·intro hd;exact absurd (show n.up=false from hd) (by rw[l];decide)
  ·intro s b d;refine⟨_,rfl,?_⟩;show s.round≤round;have b:s∈Zc6 n.table (Zd5 n round):=b
   rcases q4 with ⟨e,_⟩|⟨e,_⟩
   ·rw[e]at b;have:=a s b d;omega
   ·rw[e]at b
    rcases List.mem_append.1 b with b|b
    ·have:=a s b d;omega
    ·rw[Zv b];exact Int.le_refl _
theorem NI.again(h:NI signs rogue k n ms j):NI signs rogue k (again n) ms j:=by
 unfold Fl.again;split
 ·exact h
 ·rename_i x a
  have:∀(l:List Int) {n:Nd},(∀i∈l,0≤i∧i≤3)→n.own=some x→NI signs rogue k n ms j→NI signs rogue k (l.foldl (Zej x) n) ms j:=by
   intro l
   induction l with
   |nil=>exact fun _ _ h=>h
   |cons i l ih =>
    intro n c a h;rw[List.foldl_cons];have hi:=c i (by simp);unfold Zej;split
    ·exact ih (fun y b=>c y (by simp[b])) a h
    ·have f:=NI.sendBs hi x.batches h
     have e:∀(ds:List (List UInt8)) (n:Nd),(ds.foldl (Fl.sendB i) n).own=n.own∧(ds.foldl (Fl.sendB i) n).table=n.table:=by
      intro ds
      induction ds with
      |nil=>intro n;exact⟨rfl,rfl⟩
      |cons d ds ih2 =>
       intro n;rw[List.foldl_cons,(ih2 _).1,(ih2 _).2];exact⟨(Zlg i n d).2.1,(Zlg i n d).1⟩
     obtain⟨e1,e2⟩:=e x.batches n;obtain⟨o1,o2,o3,o4⟩:=h.own x a;refine ih (fun y b=>c y (by simp[b])) ?_ (f.send hi (fun _=>⟨o1,o2,?_⟩) (kno rfl))
     ·rw[(Zer _ _ _).2.1,e1];exact a
     ·rw[e2];exact o4
  exact this all4 (fun i hi=>Zt0.1 hi) a h
theorem NI.work2(h:NI signs rogue k n ms j)(b:n.up=true)(round:Int):∃ms',ms <+: ms'∧NI signs rogue k (work2 n round) ms' j:=by
 unfold Fl.work2;split
 ·rename_i c;refine h.propose b round fun s d a=>?_
  obtain⟨x,e,_⟩:=h.last s d a;rw[c]at e;cases e
 ·rename_i x c;split
  ·rename_i g;refine h.propose b round fun s d a=>?_
   obtain⟨y,e,f⟩:=h.last s d a;rw[c]at e;injection e with e;subst e;omega
  ·split
   ·exact⟨ms,List.prefix_refl _,h.again⟩
   ·exact⟨ms,List.prefix_refl _,h⟩
theorem Zjy(me t:Int):0≤Zgj me t∧Zgj me t≤3:=by
 unfold Zgj
 split<;>omega
theorem NI.work3(h:NI signs rogue k n ms j)(round:Int):NI signs rogue k (work3 n round) ms j:=by
 unfold Fl.work3;have a:NI signs rogue k {n with turn:=Zgj n.me n.turn } ms j:=h.other (n:=n) rfl rfl rfl rfl rfl rfl rfl rfl (Zjy _ _) (fun q=>q);exact a.send (m:=wntM (wanted n round)) (Zjy _ _) (kno rfl) (kno rfl)
theorem Zy4(n:Nd):(Fl.work1 n).up=n.up:=by
 unfold Fl.work1;split
 ·unfold tell;rw[(Zi8 _ _ _).1];exact Zs4 n _ _
 ·split
  ·exact Zs4 n _ _
  ·rfl
theorem NI.work(h:NI signs rogue k n ms j)(a:n.up=true):∃ms',ms <+: ms'∧NI signs rogue k (work n) ms' j:=by
 unfold Fl.work;obtain⟨m1,a1,a2⟩:=h.work1 a;obtain⟨m2,b1,b2⟩:=a2.work2 (by rw[Zy4];exact a) (rndV (Fl.work1 n).dag);exact⟨m2,a1.trans b1,b2.work3 _⟩
theorem Zg6{signs':List Sign}{rogue v:Int}{s:Slot}(a:∀x∈signs,x∈signs')(h:sgn signs rogue v s):sgn signs' rogue v s:=h.imp id (a _)
theorem NI.mono{signs':List Sign}(o:SI signs rogue)(f:SI signs' rogue)(g:∀x∈signs,x∈signs')(h:NI signs rogue k n ms j):NI signs' rogue k n ms j:=by
 refine⟨h.tap,fun i hi=>?_,h.core,h.me,h.kr,h.own,fun v m=>?_,h.once,h.out,h.turn,h.down,h.last⟩
 ·obtain⟨p1,p2,p3,p4⟩:=h.recs i hi;refine⟨p1,fun e=>?_,fun e=>?_,p4⟩
  ·obtain⟨a,b,c,d⟩:=p2 e;exact⟨a,b,c,Zg6 g d⟩
  ·obtain⟨a,b⟩:=p3 e;obtain⟨b1,b2⟩:=(Zjh o).1 b;exact⟨a,(Zjh f).2 ⟨b1,fun x l=>Zg6 g (b2 x l)⟩⟩
 ·exact(h.voters v m).imp id (fun⟨x,e1,e2⟩=>⟨x,e1,Zg6 g e2⟩)
theorem SI.add(d:SI signs rogue){s:Sign}(j:Zn3 s)(n:s.node≠rogue)(m:s.slot.author=s.node∨sgn signs rogue s.slot.author s.slot) :
 SI (addL signs s) rogue∧(∀x,x∈addL signs s↔x∈signs∨x=s)∧signs <+: addL signs s:=by
 have k:addE signs s=0:=by
  unfold addE;rw[d.ok];exact j
 unfold addL;rw[if_neg (by simp[k])]
 by_cases f:Zce signs s=true
 ·rw[if_pos f];refine⟨d,fun x=>⟨.inl,fun h=>?_⟩,List.prefix_refl _⟩
  rcases h with h|h
  ·exact h
  ·rw[h];exact Zda.1 f
 ·rw[if_neg f];have i:s∉signs:=fun h=>f (Zda.2 h)
  obtain⟨q1,q2⟩:=Zlc.1 d.ok;refine⟨⟨Zlc.2 ⟨fun x c=>?_,?_⟩,d.range,fun x c=>?_,fun x c=>?_⟩,fun x=>by simp,List.prefix_append _ _⟩
  ·rcases List.mem_append.1 c with c|c
   ·exact q1 x c
   ·rw[Zv c];exact j
  ·unfold List.Nodup;rw[List.pairwise_append];refine⟨q2,List.pairwise_singleton _ _,fun a o b l=>?_⟩;rw[Zv l];exact fun e=>i (e▸o)
  ·rcases List.mem_append.1 c with c|c
   ·exact(d.author x c).imp id (Zg6 fun y g=>by simp[g])
   ·rw[Zv c];exact m.imp id (Zg6 fun y g=>by simp[g])
  ·rcases List.mem_append.1 c with c|c
   ·exact d.honest x c
   ·rw[Zv c];exact n
def Zhv(m:Msg):Prop:=(0≤m.src∧m.src≤3)∧(0≤m.dst∧m.dst≤3)
structure SyncOk (k:Int) (table:List Slot) (signs signs':List Sign) (rogue:Int) (away away':List Msg):Prop where
 si:SI signs' rogue
 grow:signs <+: signs'
 new:∀x∈signs',x∈signs∨(x.node=k∧x.slot∈table)
 away:∀m∈away',Zhv m
theorem Zpw(j:0≤k∧k≤3)(o:k≠rogue){table:List Slot}(ht:Zdd table=0) :
 ∀(out:List Msg) (signs:List Sign) (away:List Msg),SI signs rogue→(∀s∈table,s.author=k∨sgn signs rogue s.author s)→(∀m∈out,OutOk k table m)→(∀m∈away,Zhv m) →
  SyncOk k table signs (out.foldl (Zc8 k) (signs,away)).1 rogue away (out.foldl (Zc8 k) (signs,away)).2
 |[],signs,away,f,_,_,g=>⟨f,List.prefix_refl _,fun x a=>.inl a,g⟩
 |m::out,signs,away,f,hT,n,g=>by
  rw[List.foldl_cons]
  have i:=n m (by simp)
  have l:∀x∈(Zc8 k (signs,away) m).2,Zhv x:=by
   unfold Zc8
   simp only
   split
   ·intro x a
    rcases List.mem_append.1 a with a|a
    ·exact g x a
    ·rw[Zv a]
     obtain⟨e1,e2,_⟩:=i
     exact⟨by rw[e1];exact j,e2⟩
   ·exact g
  have b:∀s∈table,SI (addL signs ⟨k,s⟩) rogue∧(∀x,x∈addL signs ⟨k,s⟩↔x∈signs∨x=⟨k,s⟩)∧signs <+: addL signs ⟨k,s⟩:=fun s d =>
   f.add (Znj.2 ⟨j,(Zc7.1 ht).2.1 s d⟩) o (hT s d)
  have c:SI (Zc8 k (signs,away) m).1 rogue∧signs <+: (Zc8 k (signs,away) m).1∧∀x∈(Zc8 k (signs,away) m).1,x∈signs∨(x.node=k∧x.slot∈table):=by
   unfold Zc8 Znk
   by_cases e2:m.kind=2
   ·obtain⟨q1,q2,q3⟩:=i.2.2.1 e2
    rw[if_pos e2]
    simp only
    have e:(⟨m.hdr.author,m.hdr.round,hdR m.hdr⟩:Slot)=Zck m.hdr:=by rw[Zxx q2];rfl
    rw[e]
    obtain⟨p1,p2,p3⟩:=b _ q3
    refine⟨p1,p3,fun x a=>?_⟩
    rcases(p2 x).1 a with h|h
    ·exact .inl h
    ·rw[h];exact .inr ⟨rfl,q3⟩
   ·rw[if_neg e2]
    by_cases e3:m.kind=3
    ·rw[if_pos e3]
     simp only
     have q3:=i.2.2.2 e3
     obtain⟨p1,p2,p3⟩:=b _ q3
     refine⟨p1,p3,fun x a=>?_⟩
     rcases(p2 x).1 a with h|h
     ·exact .inl h
     ·rw[h];exact .inr ⟨rfl,q3⟩
    ·rw[if_neg e3]
     exact⟨f,List.prefix_refl _,fun x a=>.inl a⟩
  obtain⟨s1,s2,s3⟩:=c
  have ih:=Zpw j o ht out (Zc8 k (signs,away) m).1 (Zc8 k (signs,away) m).2 s1 (fun s d=>(hT s d).imp id (Zg6 fun x a=>s2.subset a)) (fun x a=>n x (by simp[a])) l
  refine⟨ih.si,s2.trans ih.grow,fun x a=>?_,ih.away⟩
  rcases ih.new x a with h|h
  ·exact s3 x h
  ·exact .inr h
theorem NI.syncN(h:NI signs rogue k n ms j):NI signs rogue k (syncN n) ms ms.length:=by
 have a:=h.tap.may;have e1:(Fl.syncN n).tl=n.tl:=by unfold Fl.syncN;simp only[a,if_true]
 have e2:(Fl.syncN n).ty=n.tl.length:=by unfold Fl.syncN;simp only[a,if_true]
 refine⟨⟨h.tap.good,by rw[e1];exact h.tap.tl,by rw[e1];exact h.tap.short,Za _,by rw[e2,List.take_length,h.tap.tl]⟩,h.recs,h.core,h.me,h.kr,h.own,h.voters,h.once,fun x b=>?_,h.turn,fun _=>rfl,h.last⟩;simp[Fl.syncN]at b
theorem recS_me(n:Nd)(m:Msg):(recS n m).me=n.me:=by
 unfold recS;split
 ·split
  ·exact Zg5 n _ _
  ·exact Zg5 n _ _
 ·split
  ·rfl
  ·split
   ·rfl
   ·split
    ·exact Zqn n _ _
    ·rfl
structure Back (k:Int) (n:Nd):Prop where
 me:n.me=k
 up:n.up=false
 out:n.out=[]
 txs:n.txs=[]
 turn:n.turn=0
 voters:(n.own=none∧n.voters=[])∨((∃h,n.own=some h)∧n.voters=[k])
theorem Zg4(n:Nd)(b:Bat):(store n b false).1.own=n.own∧(store n b false).1.voters=n.voters∧(store n b false).1.out=n.out∧(store n b false).1.up=n.up∧(store n b false).1.txs=n.txs∧(store n b false).1.turn=n.turn∧(store n b false).1.tl=n.tl∧(store n b false).1.ty=n.ty∧(store n b false).1.mine=n.mine∧(store n b false).1.table=n.table:=by
 unfold Fl.store put;split
 ·exact⟨rfl,rfl,rfl,rfl,rfl,rfl,rfl,rfl,rfl,rfl⟩
 ·exact⟨rfl,rfl,rfl,rfl,rfl,rfl,rfl,rfl,rfl,rfl⟩
theorem Zgf(n:Nd)(c:Crt):(insert n c false).1.own=n.own∧(insert n c false).1.voters=n.voters∧(insert n c false).1.out=n.out∧(insert n c false).1.up=n.up∧(insert n c false).1.txs=n.txs∧(insert n c false).1.turn=n.turn∧(insert n c false).1.tl=n.tl∧(insert n c false).1.ty=n.ty∧(insert n c false).1.mine=n.mine∧(insert n c false).1.table=n.table:=by
 unfold Fl.insert;split
 ·exact⟨rfl,rfl,rfl,rfl,rfl,rfl,rfl,rfl,rfl,rfl⟩
 ·exact⟨rfl,rfl,rfl,rfl,rfl,rfl,rfl,rfl,rfl,rfl⟩
theorem Back.recS{n:Nd}(h:Back k n)(m:Msg):Back k (recS n m)∧(Fl.recS n m).tl=n.tl∧(Fl.recS n m).ty=n.ty:=by
 unfold Fl.recS;split
 ·obtain⟨a,b,c,d,e,f,g1,g2,_⟩:=Zg4 n m.bat;split
  ·exact⟨⟨by show(store n m.bat false).1.me=k;rw[Zg5];exact h.me,d.trans h.up,c.trans h.out,e.trans h.txs,f.trans h.turn,by show((store n m.bat false).1.own=_∧(store n m.bat false).1.voters=_)∨((∃h,(store n m.bat false).1.own=_)∧(store n m.bat false).1.voters=_);rw[a,b];exact h.voters⟩,g1,g2⟩
  ·exact⟨⟨by rw[Zg5];exact h.me,d.trans h.up,c.trans h.out,e.trans h.txs,f.trans h.turn,by rw[a,b];exact h.voters⟩,g1,g2⟩
 ·split
  ·exact⟨⟨h.me,h.up,h.out,h.txs,h.turn,.inr ⟨⟨_,rfl⟩,by rw[h.me]⟩⟩,rfl,rfl⟩
  ·split
   ·exact⟨⟨h.me,h.up,h.out,h.txs,h.turn,h.voters⟩,rfl,rfl⟩
   ·split
    ·obtain⟨a,b,c,d,e,f,g1,g2,_⟩:=Zgf n m.crt;exact⟨⟨by rw[Zqn];exact h.me,d.trans h.up,c.trans h.out,e.trans h.txs,f.trans h.turn,by rw[a,b];exact h.voters⟩,g1,g2⟩
    ·exact⟨h,rfl,rfl⟩
theorem Back.fold:∀(ms:List Msg) {n:Nd},Back k n→Back k (ms.foldl Fl.recS n)∧(ms.foldl Fl.recS n).tl=n.tl∧(ms.foldl Fl.recS n).ty=n.ty
 |[],n,h=>⟨h,rfl,rfl⟩
 |m::ms,n,h=>by
  rw[List.foldl_cons]
  obtain⟨a,b,c⟩:=h.recS m
  obtain⟨k1,k2,k3⟩:=Back.fold ms a
  exact⟨k1,k2.trans b,k3.trans c⟩
def Zvv(k:Int)(n:Nd):Prop:=∀h,n.own=some h→h.author=k∧hF h=0∧n.mine=hD h∧Zck h∈n.table
theorem Zz1{c:Co}(q:core n=c)(o:Zvu signs rogue k c m)(h:Zvv k n):Zvv k (recS n m):=by
 have j:=Zl9 (core n) m;rw[←Zq2]at j;have i:∀s∈n.table,s∈(recS n m).table:=fun s p=>j.table.subset p
 unfold Fl.recS at i⊢;split
 ·rename_i e1;rw[if_pos e1]at i;obtain⟨a,b,c,d,e,f,g1,g2,g3,g4⟩:=Zg4 n m.bat;split
  ·intro x g;have g:(store n m.bat false).1.own=some x:=g;rw[a]at g;obtain⟨p1,p2,p3,p4⟩:=h x g;exact⟨p1,p2,g3.trans p3,by show _∈(store n m.bat false).1.table;rw[g4];exact p4⟩
  ·intro x g;rw[a]at g;obtain⟨p1,p2,p3,p4⟩:=h x g;exact⟨p1,p2,g3.trans p3,by rw[g4];exact p4⟩
 ·rename_i e1;split
  ·rename_i e2;intro x g;injection g with g;subst g;obtain⟨q1,q2⟩:=o.1 e2;rw[←q]at q2;have q2:Ze5 n.table m.hdr=0:=q2;have l:=(Zeu q2).2.1;refine⟨q1,l,Zxx l,?_⟩;show _∈(if Ze5 n.table m.hdr=0 then Zc6 n.table m.hdr else n.table);rw[if_pos q2];exact(Zhg q2).2.1
  ·rename_i e2;rw[if_neg e1,if_neg e2]at i;split
   ·rename_i e3;intro x g;obtain⟨p1,p2,p3,p4⟩:=h x g;exact⟨p1,p2,p3,by simp[p4]⟩
   ·rename_i e3;split
    ·obtain⟨a,b,c,d,e,f,g1,g2,g3,g4⟩:=Zgf n m.crt;intro x g;rw[a]at g;obtain⟨p1,p2,p3,p4⟩:=h x g;exact⟨p1,p2,g3.trans p3,by rw[g4];exact p4⟩
    ·exact h
theorem Zz2{n0:Nd}(a:core n0=co0)(b:Zvv k n0)(c:RecsOk signs rogue k ms):Zvv k (ms.foldl recS n0):=by
 have:∀i,i≤ms.length→Zvv k ((ms.take i).foldl recS n0):=by
  intro i
  induction i with
  |zero=>intro _;exact b
  |succ i ih =>
   intro hi;rw[Zn (by omega),List.foldl_append];exact Zz1 (by rw[Ziv,a];rfl) (c i (by omega)) (ih (by omega))
 have d:=this ms.length (Za _);rwa[List.take_length]at d
def Zn4(k:Int)(n:Nd):Prop:=∀s∈n.table,s.author=k→∃h,n.own=some h∧s.round≤h.round
theorem Zxp{c:Co}(l:core n=c)(j:Zvu signs rogue k c m)(h:Zn4 k n):Zn4 k (recS n m):=by
 unfold Fl.recS;split
 ·obtain⟨a,b,c,d,e,f,g1,g2,g3,g4⟩:=Zg4 n m.bat;split
  ·intro s g i;have g:s∈(store n m.bat false).1.table:=g;rw[g4]at g;show ∃h,(store n m.bat false).1.own=some h∧_;rw[a];exact h s g i
  ·intro s g i;rw[g4]at g;rw[a];exact h s g i
 ·split
  ·rename_i e2;obtain⟨_,q2⟩:=j.1 e2;have q3:=j.2.2.2.2.1 e2;rw[←l]at q2 q3;have q2:Ze5 n.table m.hdr=0:=q2;have q3:∀s∈n.table,s.author=k→s.round<m.hdr.round:=q3;intro s g i;have g:s∈(if Ze5 n.table m.hdr=0 then Zc6 n.table m.hdr else n.table):=g;rw[if_pos q2]at g;refine⟨_,rfl,?_⟩;obtain⟨_,_,_,q4⟩:=Zeu q2
   rcases q4 with ⟨e,_⟩|⟨e,_⟩
   ·rw[e]at g;have:=q3 s g i;omega
   ·rw[e]at g
    rcases List.mem_append.1 g with g|g
    ·have:=q3 s g i;omega
    ·rw[Zv g];exact Int.le_refl _
  ·split
   ·rename_i e3;have q:=j.2.2.2.2.2 e3;intro s g i
    rcases List.mem_append.1 g with g|g
    ·exact h s g i
    ·rw[Zv g]at i;exact absurd i q
   ·split
    ·obtain⟨a,b,c,d,e,f,g1,g2,g3,g4⟩:=Zgf n m.crt;intro s g i;rw[g4]at g;rw[a];exact h s g i
    ·exact h
theorem Zxq{n0:Nd}(a:core n0=co0)(b:Zn4 k n0)(c:RecsOk signs rogue k ms):Zn4 k (ms.foldl recS n0):=by
 have:∀i,i≤ms.length→Zn4 k ((ms.take i).foldl recS n0):=by
  intro i
  induction i with
  |zero=>intro _;exact b
  |succ i ih =>
   intro hi;rw[Zn (by omega),List.foldl_append];exact Zxp (by rw[Ziv,a];rfl) (c i (by omega)) (ih (by omega))
 have d:=this ms.length (Za _);rwa[List.take_length]at d
theorem NI.crash(h:NI signs rogue k n ms j){keep:Int}(y:0≤keep) :
 ∃i,i≤ms.length∧j≤i∧NI signs rogue k (crash n k keep) (ms.take i) i∧Back k (crash n k keep)∧(ms.take i).length=i∧(j=ms.length→i=ms.length):=by
 have g:=h.tap.may
 obtain⟨N,hN,u,t⟩:∃N:Nat,Zdw n.ty keep n.tl.length=N∧N≤(Za2 ms).length∧(Za2 (ms.take j)).length≤N:=by
  have:=Zfc ms j;refine⟨_,rfl,?_,?_⟩
  ·unfold Zdw;rw[h.tap.ty,h.tap.tl];split<;>omega
  ·unfold Zdw;rw[h.tap.ty,h.tap.tl];split<;>omega
 obtain⟨i,i1,i2,i3,i4⟩:=Zwz h.tap.good u;have o:=i4 j h.tap.jl t;have el:crL n.tl n.ty keep=(Za2 ms).take N:=by unfold crL;rw[if_pos ⟨g,y⟩,hN,h.tap.tl]
 have ea:crA n.tl n.ty keep=N:=by unfold crA;rw[if_pos ⟨g,y⟩,hN]
 have l:((Za2 ms).take N).length=N:=by simp;omega
 have a:=h.tap.short;rw[h.tap.tl]at a;have f:Zbc ((Za2 ms).take N) N=true:=by unfold Zbc;rw[l];simp;omega
 have e1:rcvM ((Za2 ms).take N) N=ms.take i:=by unfold rcvM;rw[f,i2];rfl
 have e2:rcvD ((Za2 ms).take N) N=Za2 (ms.take i):=by
  unfold rcvD;rw[f,i2];simp only[if_true];rw[List.take_take,Nat.min_eq_left i3];have:Za2 ms=Za2 (ms.take i)++Za2 (ms.drop i):=by rw[←Zd4,List.take_append_drop]
  rw[this,List.take_left]
 have e3:rcvY ((Za2 ms).take N) N=(Za2 (ms.take i)).length:=by
  unfold rcvY;rw[f,i2];simp only[if_true]
  split<;>omega
 have ec:Fl.crash n k keep=(ms.take i).foldl recS {fresh k with up:=false,tl:=Za2 (ms.take i),ty:=((Za2 (ms.take i)).length:Nat) }:=by
  unfold Fl.crash;simp only;rw[el,ea,e1,e2,e3]
 have r:Back k {fresh k with up:=false,tl:=Za2 (ms.take i),ty:=((Za2 (ms.take i)).length:Nat) }:=⟨rfl,rfl,rfl,rfl,rfl,.inl ⟨rfl,rfl⟩⟩;obtain⟨b1,b2,b3⟩:=Back.fold (ms.take i) r;have c:=h.recs.take i
 have p:Zvv k (Fl.crash n k keep):=by
  rw[ec];exact Zz2 (signs:=signs) (rogue:=rogue) rfl (fun x z=>by cases z) c
 have d:Zn4 k (Fl.crash n k keep):=by
  rw[ec];exact Zxq (signs:=signs) (rogue:=rogue) rfl (fun s w _=>by cases w) c
 have q:(ms.take i).length=i:=by simp;omega
 rw[←ec]at b1 b2 b3;refine⟨i,i1,o,⟨⟨fun m g=>h.tap.good m (List.mem_of_mem_take g),b2,?_,by omega,?_⟩,c,?_,b1.me,h.kr,p,?_,?_,?_,?_,fun _=>q.symm,d⟩,b1,q,fun e=>?_⟩
 ·rw[b2];have:=Zfc ms i;show(Za2 (ms.take i)).length≤_;omega
 ·rw[b3,List.take_take,Nat.min_self]
 ·rw[ec,Ziv];rfl
 ·intro v b
  rcases b1.voters with ⟨_,e⟩|⟨_,e⟩
  ·rw[e]at b;cases b
  ·rw[e]at b;exact .inl (Zv b)
 ·rcases b1.voters with ⟨_,e⟩|⟨_,e⟩
  ·rw[e];exact⟨List.nodup_nil,fun v b=>by cases b⟩
  ·rw[e];exact⟨List.pairwise_singleton _ _,fun v b=>by rw[Zv b];exact h.kr⟩
 ·rw[b1.out];intro m g;cases g
 ·rw[b1.turn];decide
 ·have:=o;omega
end
structure WI (f:Ft):Prop where
 len:f.nodes.length=4
 si:SI f.signs f.rogue
 node:∀i:Int,0≤i→i≤3→∃ms j,NI f.signs f.rogue i (Zav f i) ms j∧∀s∈f.signs,s.node=i→s.slot∈(coOf (ms.take j)).table
 away:∀m∈f.away,Zhv m
theorem Zes(a:f.nodes.length=4){i k:Int}(hi:0≤i∧i≤3)(b:0≤k∧k≤3)(n:Nd):Zav (Za4 f i n) k=if k=i then n else Zav f k:=by
 unfold Zav Za4;simp only
 by_cases e:k=i
 ·subst e;rw[if_pos rfl,List.getElem?_set_self (by omega)];rfl
 ·rw[if_neg e,List.getElem?_set_ne (by omega)]
theorem WI.set(h:WI f){i:Int}(hi:0≤i∧i≤3)(hn:∀ms j,NI f.signs f.rogue i (Zav f i) ms j→∃ms',ms <+: ms'∧NI f.signs f.rogue i n ms' j):WI (Za4 f i n):=by
 refine⟨by unfold Za4;simp[h.len],h.si,fun k a b=>?_,h.away⟩;rw[Zes h.len hi ⟨a,b⟩];obtain⟨ms,j,p1,p2⟩:=h.node k a b
 by_cases e:k=i
 ·subst e;rw[if_pos rfl];obtain⟨ms',q1,q2⟩:=hn ms j p1;refine⟨ms',j,q2,fun s d c=>?_⟩;have:=p2 s d c;obtain⟨t,rfl⟩:=q1;rw[List.take_append_of_le_length p1.tap.jl];exact this
 ·rw[if_neg e];exact⟨ms,j,p1,p2⟩
theorem WI.come{f:Ft}(h:WI f){tw:Int}(ht:0≤tw∧tw≤3){m:Msg}(a:0≤m.src∧m.src≤3):WI (come f tw m):=by
 unfold Fl.come;split
 ·exact h
 ·rename_i hn;simp only[not_or,Bool.not_eq_false]at hn;exact h.set ht fun ms j hN=>hN.come1 h.si hn.1 a
theorem Zdz(f:Ft)(tw:Int)(m:Msg):(come f tw m).rogue=f.rogue∧(come f tw m).signs=f.signs∧(come f tw m).away=f.away∧(come f tw m).codes=f.codes:=by
 unfold Fl.come;split<;>exact⟨rfl,rfl,rfl,rfl⟩
theorem WI.flow:∀(l:List Msg) {f:Ft},(∀m∈l,Zhv m)→WI f→WI (l.foldl (fun g m=>Fl.come g m.dst m) f)
 |[],_,_,h=>h
 |m::l,f,a,h=>by
  rw[List.foldl_cons]
  exact WI.flow l (fun x b=>a x (by simp[b])) (h.come (a m (by simp)).2 (a m (by simp)).1)
theorem WI.awayed(h:WI f){l:List Msg}(a:∀m∈l,Zhv m):WI {f with away:=l }:=⟨h.len,h.si,h.node,a⟩
theorem WI.coded(h:WI f)(l:List Int):WI {f with codes:=l }:=⟨h.len,h.si,h.node,h.away⟩
def AOk(a:At):Prop:=(0≤a.node∧a.node≤3)∧0≤a.pick
theorem Zy1{a:At}(h:actE a=0):AOk a:=by
 unfold actE actF at h;unfold AOk;split at h
 ·cases h
 ·split at h
  ·cases h
  ·rename_i b;simp only[Bool.or_eq_true,Bool.and_eq_true,Bool.not_eq_true',not_or,not_and,Bool.not_eq_false]at b;split at h
   ·cases h
   ·split at h
    ·cases h
    ·rename_i c;simp only[Bool.or_eq_true,Bool.and_eq_true,Bool.not_eq_true',not_or,not_and,bne_iff_ne,ne_eq,Decidable.not_not]at c;refine⟨?_,?_⟩
     ·by_cases e:hN a.kind=true
      ·exact Zbj.1 (b.1 e)
      ·have:=c.1.1 (by simpa using e);omega
     ·by_cases e:hP a.kind=true
      ·exact(Zbj.1 (b.2 e)).1
      ·have:=c.1.2 (by simpa using e);omega
theorem Ztt{b:List UInt8}(h:decE b=0):msgF (decM b)=0:=by
 have a:=h;unfold decE at h;unfold decM;rw[if_pos a];split at h
 ·cases h
 ·split at h
  ·cases h
  ·split at h
   ·cases h
   ·split at h
    ·cases h
    ·split at h
     ·cases h
     ·exact h
theorem WI.sync{f:Ft}(h:WI f){i:Int}(hi:0≤i∧i≤3)(o:i≠f.rogue):WI (sync f i):=by
 obtain⟨ms,j,p1,p2⟩:=h.node i hi.1 hi.2;have g:=p1.me;have a:=Zpw hi o (table:=(Zav f i).table) (by rw[p1.table];exact p1.co.table) (Zav f i).out f.signs f.away h.si (by rw[p1.table];exact p1.co.others) p1.out h.away;unfold Fl.sync;simp only;rw[g];generalize (Zav f i).out.foldl (Zc8 i) (f.signs,f.away)=p at a⊢;refine⟨by unfold Za4;simp[h.len],a.si,fun k m n=>?_,a.away⟩;show ∃ms j,NI p.1 f.rogue k (Zav (Za4 f i (syncN (Zav f i))) k) ms j∧_;rw[Zes h.len hi ⟨m,n⟩];obtain⟨ms',j',r1,r2⟩:=h.node k m n
 by_cases e:k=i
 ·subst e;rw[if_pos rfl];refine⟨ms',ms'.length,(r1.mono h.si a.si (fun x c=>a.grow.subset c)).syncN,fun s l b=>?_⟩;rw[List.take_length,←r1.table]
  rcases a.new s l with q|q
  ·have:=r2 s q b;have d:=Zyj (List.take_prefix j' ms');rw[r1.table];exact d.table.subset this
  ·exact q.2
 ·rw[if_neg e];refine⟨ms',j',r1.mono h.si a.si (fun x c=>a.grow.subset c),fun s l b=>?_⟩
  rcases a.new s l with q|q
  ·exact r2 s q b
  ·exact absurd (b.symm.trans q.1) e
theorem WI.crash{f:Ft}(h:WI f){i:Int}(hi:0≤i∧i≤3){keep:Int}(l:0≤keep):WI (Za4 f i (crash (Zav f i) i keep)):=by
 refine⟨by unfold Za4;simp[h.len],h.si,fun k d g=>?_,h.away⟩;rw[Zes h.len hi ⟨d,g⟩];obtain⟨ms,j,p1,p2⟩:=h.node k d g
 by_cases e:k=i
 ·subst e;rw[if_pos rfl];obtain⟨q,q1,q2,q3,q4,q5,q6⟩:=p1.crash l;refine⟨ms.take q,q,q3,fun s n m=>?_⟩;rw[List.take_take,Nat.min_self];have:=p2 s n m;have c:=Zyj (a:=ms.take j) (b:=ms.take q) (List.take_prefix_take_left (by omega));exact c.table.subset this
 ·rw[if_neg e];exact⟨ms,j,p1,p2⟩
theorem WI.act{f:Ft}(h:WI f){a:At}(c:AOk a)(d:a.node≠f.rogue):WI (act f a):=by
 unfold Fl.act;simp only;split
 ·exact h.set c.1 fun ms j hN=>⟨ms,List.prefix_refl _,hN.other (n':={ Zav f a.node with up:=true }) rfl rfl rfl rfl rfl rfl rfl rfl hN.turn (fun q=>by cases q)⟩
 ·split
  ·exact h
  ·rename_i b;have b:(Zav f a.node).up=true:=by simpa using b
   split
   ·exact h.set c.1 fun ms j hN=>hN.work b
   ·split
    ·exact h.sync c.1 d
    ·split
     ·exact h.crash c.1 c.2
     ·exact h
theorem Zy0(f:Ft)(a:At):(act f a).rogue=f.rogue:=by
 unfold Fl.act Fl.sync;simp only;split
 ·rfl
 ·split
  ·rfl
  ·split
   ·rfl
   ·split
    ·rfl
    ·split<;>rfl
theorem Zha:∀(l:List Msg) (f:Ft),(l.foldl (fun g m=>come g m.dst m) f).rogue=f.rogue∧(l.foldl (fun g m=>come g m.dst m) f).signs=f.signs∧(l.foldl (fun g m=>come g m.dst m) f).away=f.away∧(l.foldl (fun g m=>come g m.dst m) f).codes=f.codes
 |[],f=>⟨rfl,rfl,rfl,rfl⟩
 |m::l,f=>by
  rw[List.foldl_cons]
  obtain⟨a,c,b,d⟩:=Zha l (come f m.dst m)
  obtain⟨k1,k2,k3,k4⟩:=Zdz f m.dst m
  exact⟨a.trans k1,c.trans k2,b.trans k3,d.trans k4⟩
theorem Zx7(f:Ft)(a:At):(doA f a).rogue=f.rogue:=by
 unfold doA submit;simp only;split
 ·split<;>rfl
 ·split
  ·split
   ·rfl
   ·split
    ·exact(Zdz _ _ _).1
    ·rfl
  ·split
   ·split
    ·rfl
    ·split<;>rfl
   ·split
    ·exact(Zha _ _).1
    ·split
     ·split
      ·exact(Zdz _ _ _).1
      ·rfl
     ·split
      ·exact Zy0 _ _
      ·rfl
theorem WI.submit{f:Ft}(h:WI f){a:At}(b:AOk a):WI (submit f a):=by
 unfold Fl.submit;simp only;split
 ·exact h.set b.1 fun ms j hN=>⟨ms,List.prefix_refl _,hN.other (n':={ Zav f a.node with txs:=(Zav f a.node).txs++[a.text] }) rfl rfl rfl rfl rfl rfl rfl rfl hN.turn (fun q=>q)⟩
 ·exact h
theorem WI.doA{f:Ft}(h:WI f){a:At}(e:AOk a):WI (doA f a):=by
 unfold Fl.doA;split
 ·exact(h.submit e).coded _
 ·split
  ·split
   ·exact h
   ·rename_i m d;have b:=List.mem_of_getElem? d;have g:WI {f with away:=f.away.eraseIdx (pick f a.pick) }:=h.awayed fun x c=>h.away x (List.mem_of_mem_eraseIdx c)
    split
    ·exact g.come (h.away m b).2 (h.away m b).1
    ·exact g
  ·split
   ·split
    ·exact h
    ·rename_i m d;have b:=List.mem_of_getElem? d;split
     ·refine h.awayed fun x c=>?_
      rcases List.mem_append.1 c with c|c
      ·exact h.away x c
      ·rw[Zv c];exact h.away m b
     ·exact h
   ·split
    ·exact WI.flow _ h.away (h.awayed fun x c=>by cases c)
    ·split
     ·split
      ·rename_i hd;exact h.come e.1 (msgF_zero (Ztt hd.1)).1
      ·exact h
     ·split
      ·rename_i i;exact h.act e i
      ·exact h
theorem ni_fresh{rogue k:Int}(c:0≤k∧k≤3):NI [] rogue k (fresh k) [] 0 :=
 ⟨⟨fun m a=>(by cases a),rfl,(by simp[fresh]),Za _,rfl⟩,fun i hi=>(by simp at hi),rfl,rfl,c,fun h d=>(by cases d),fun v b=>(by cases b),⟨List.nodup_nil,fun v b=>(by cases b)⟩,fun m a=>(by cases a),(show(0:Int)≤0∧(0:Int)≤3 by decide),fun h=>(by cases h),fun s e=>(by cases e)⟩
theorem WI.start{rogue:Int}(e:inB rogue (-1) 3=true):WI (start rogue):=by
 refine⟨rfl,⟨rfl,e,fun s a=>(by cases a),fun s a=>(by cases a)⟩,fun i b d=>?_,fun m c=>(by cases c)⟩
 have:Zav (Fl.start rogue) i=fresh i:=by
  have:i=0∨i=1∨i=2∨i=3:=by omega
  rcases this with rfl|rfl|rfl|rfl<;>rfl
 rw[this];exact⟨[],0,ni_fresh ⟨b,d⟩,fun s a=>(by cases a)⟩
theorem Zwr(rogue:Int)(l:List At):(run rogue l).rogue=rogue:=by
 have:∀(l:List At) (f:Ft),(l.foldl doA f).rogue=f.rogue:=by
  intro l
  induction l with
  |nil=>intro f;rfl
  |cons a l ih=>intro f;rw[List.foldl_cons,ih,Zx7]
 exact this l _
structure Same (p q:Vw):Prop where
 round:p.round=q.round
 certs:p.certs=q.certs
 bats:p.bats=q.bats
 votes:p.votes=q.votes
def vwAt(f:Ft)(i:Int):Vw:=if i=f.rogue then vw0 else view (Zav f i)
def Acts(l:List At):Prop:=∀a∈l,actE a=0
theorem Acts.ok{l:List At}(h:Acts l):∀a∈l,AOk a:=fun a b=>Zy1 (h a b)
theorem Acts.append{l m:List At}(h:Acts l)(k:Acts m):Acts (l++m):=fun a b=>(List.mem_append.1 b).elim (h a) (k a)
theorem Acts.nil:Acts []:=fun a b=>by cases b
theorem Acts.cons{a:At}{l:List At}(h:actE a=0)(k:Acts l):Acts (a::l):=fun b c=>by
 rcases List.mem_cons.1 c with rfl|c
 ·exact h
 ·exact k b c
theorem runE_ok{rogue:Int}(c:inB rogue (-1) 3=true){l:List At}(h:Acts l)(d:l.length≤3000):runE rogue l=0:=by
 unfold runE;rw[if_neg (by simp[c]),if_neg (by omega)];split
 ·rename_i a b;have:=List.find?_some b;rw[h a (List.mem_of_find?_eq_some b)]at this;simp at this
 ·rfl
theorem Zvf:(ByteArray.empty.toList==[])=true:=by
 have:ByteArray.empty.toList=[]:=by
  unfold ByteArray.toList ByteArray.toList.loop;rfl
 rw[this];rfl
theorem Zeb{k n p:Int}(a:inB k 1 10=true)(c:hT k=false)(b:(hN k&& !inB n 0 3||hP k&& !inB p 0 400000)=false)(d:(!hN k&&n != 0|| !hP k&&p != 0)=false):actE ⟨k,n,p,ByteArray.empty⟩=0:=by
 unfold actE actF;simp only;rw[a,c,b,d,Zvf];rfl
theorem Ztk{i:Int}(hi:0≤i∧i≤3):inB i 0 3=true:=Zbj.2 hi
theorem Zzm{i:Int}(hi:0≤i∧i≤3):actE (startA i)=0:=Zeb rfl rfl (by rw[Ztk hi];rfl) rfl
theorem syncA_E{i:Int}(hi:0≤i∧i≤3):actE (syncA i)=0:=Zeb rfl rfl (by rw[Ztk hi];rfl) rfl
theorem workA_E{i:Int}(hi:0≤i∧i≤3):actE (workA i)=0:=Zeb rfl rfl (by rw[Ztk hi];rfl) rfl
theorem flowA_E:actE flowA=0:=Zeb rfl rfl rfl rfl
theorem crashA_E{i p:Int}(hi:0≤i∧i≤3)(hp:0≤p∧p≤400000):actE (crashA i p)=0:=by
 have a:inB p 0 400000=true:=Zbj.2 hp;exact Zeb rfl rfl (by rw[Ztk hi,a];rfl) rfl
theorem takeA_E{p:Int}(hp:0≤p∧p≤400000):actE (takeA p)=0:=by
 have a:inB p 0 400000=true:=Zbj.2 hp;exact Zeb rfl rfl (by rw[a];rfl) rfl
theorem loseA_E{p:Int}(hp:0≤p∧p≤400000):actE ⟨5,0,p,ByteArray.empty⟩=0:=by
 have a:inB p 0 400000=true:=Zbj.2 hp;exact Zeb rfl rfl (by rw[a];rfl) rfl
theorem copyA_E{p:Int}(hp:0≤p∧p≤400000):actE (copyA p)=0:=by
 have a:inB p 0 400000=true:=Zbj.2 hp;exact Zeb rfl rfl (by rw[a];rfl) rfl
theorem Zwi{i:Int}(hi:0≤i∧i≤3){t:ByteArray}(ht:t.size≤4000):actE ⟨1,i,0,t⟩=0:=by
 have b:inB i 0 3=true:=Zbj.2 hi;have e1:inB 1 1 10=true:=rfl;have e2:hN 1=true:=rfl;have e3:hP 1=false:=rfl;have e4:hT 1=true:=rfl;have a:decide (4000<t.size)=false:=by simp;omega
 unfold actE actF;simp only;rw[b,e1,e2,e3,e4,a];rfl
def Zx3(i:Int)(t:ByteArray):At:=⟨9,i,0,t⟩
theorem forgeA_E{i:Int}(hi:0≤i∧i≤3){t:ByteArray}(ht:t.size≤4000):actE (Zx3 i t)=0:=by
 have b:inB i 0 3=true:=Zbj.2 hi;have e1:inB 9 1 10=true:=rfl;have e2:hN 9=true:=rfl;have e3:hP 9=false:=rfl;have e4:hT 9=true:=rfl;have a:decide (4000<t.size)=false:=by simp;omega
 unfold actE actF Zx3;simp only;rw[b,e1,e2,e3,e4,a];rfl
end Fl
end Go.Proofs.YtbcpbnfojfiekaaGreatDoor
