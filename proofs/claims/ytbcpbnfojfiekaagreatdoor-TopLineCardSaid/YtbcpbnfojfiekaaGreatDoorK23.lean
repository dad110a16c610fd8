/- A part of what the last text stands on. -/
import Derived.Test.YtbcpbnfojfiekaaGreatDoorK22
namespace Go.Proofs.YtbcpbnfojfiekaaGreatDoor
open Go.ChangeShapes Go.WideShapes Go.ChangeAt Go.RowKit Go.Proofs.Tryz Qa Qb Qc
set_option linter.all false
set_option maxHeartbeats 20000000
set_option maxRecDepth 100000
variable{w w' W:World}{cs:Array Value}{t:TypeId}{g:Nat}
namespace Fl
theorem Zx2{T:Nat×Nat→Prop}{o:Own}(i:Lim o w)(c:Below w.heap.size w W)(f:w.heap.size<W.heap.size):Fr T o w (mark o w.heap.size (some (7,w.heap.size))) W:=by
 have g:=Fr.of_below (T:=T) i c;refine⟨c.os,c.tape,c.output,c.size,g.lim.mark f (fun k a=>by injection a with a;injection a with _ a;exact a.symm),fun b d hn=>?_,fun b t' d e hT=>⟨t',by rw[Zb1 _ _ (by omega)];exact e,hT⟩⟩;rw[Zb1 _ _ (by omega)];exact g.keep b d hn
theorem Zn0{T:Nat×Nat→Prop}{o o':Own}{tg:Nat×Nat}(h:Blk w g t cs)(f:Fr T o w o' w')(b:o g=some tg)(hT:¬T tg):Blk w' g t cs :=
 ((f.keep g h.lt (fun t ht a=>by rw[b]at ht;injection ht with ht;subst ht;exact hT a)).2).trans h
theorem Za3{T:Nat×Nat→Prop}{o o':Own}(h:Blk w g t cs)(f:Fr T o w o' w')(a:o g=none):Blk w' g t cs :=
 ((f.keep g h.lt (fun t ht=>by rw[a]at ht;cases ht)).2).trans h
theorem Zfa(i tb g off:Nat)(n:Nd)(tw:Int)(m:Msg)(vt vb vp vd cb cp cv:Value)(o:Own)(w:World)(N:Lim o w)(hi:i<5)(hN:NodeAt o w i tb g off n)(D:RMsg (Zas o w) m vt vb vp vd cb cp cv)(O:∀s∈m.bat.txs,s.size≤140737488355328)(Q:n.out.length≤400) :
 Calls prog 138 #[.pointer (some ⟨g,off,none⟩),.int .i64 tw,.agg (msgC m vt vb vp vd cb cp cv)] w fun e w'=>e=.returned (.tuple #[])∧∃o',NFr i tb g off o w o' w'∧NodeAt o' w' i tb g off (send n tw m):=by
 obtain⟨B,⟨vtx,vba,vdi,vta,vda,vow,vmi,vvo,vtp,vou⟩,a,E⟩:=hN;have v:=a.lt
 have x:Hid (([.int .i64 n.me,.int .i64 tw,.int .i64 m.kind,.int .i64 m.bat.author,.int .i64 m.bat.number,vt,.int .i64 m.hdr.author,.int .i64 m.hdr.round,vb,vp,.int .i64 m.slt.author,.int .i64 m.slt.round,vd,.int .i64 m.crt.hdr.author,.int .i64 m.crt.hdr.round,cb,cp,cv,.int .i64 m.round]:List Value).all (fun u=>u.oneCell')=true):=by
  obtain⟨⟨tA,tc,rfl⟩,⟨bA,bc,rfl⟩,⟨pA,pc,rfl⟩,⟨dA,dc,rfl⟩,⟨cA,cc,rfl⟩,⟨qA,qc,rfl⟩,⟨vA,vc,rfl⟩⟩:=D.forms;rfl
 unfold msgC;go_enter func138,ntmps138;go_upto_region 1 with fail;refine Zo fun W I J G=>?_
 have f1:=Zx2 (T:=fun _=>False) N G (by omega);have d:=Zc9 o w.heap.size (some (7,w.heap.size));have S1:=a.fr f1 B (fun h=>h);have R1:=E.fr f1 (fun _ h=>h);have m1:=Zb6 v f1 B (fun h=>h);have r1:=D.mono f1.view;have l1:=f1.lim;generalize mark o w.heap.size (some (7,w.heap.size))=o1 at *;obtain⟨oA,oc,rfl⟩:=E.ou.form;have s0:=S1.nd0;have s13:=S1.nd13;simp only at s0 s13
 by_cases h:n.out.length<400
 rotate_left
 ·have L:¬(n.out.length:Int)<400:=by omega
  go_wp2;go_end0;rw[show Fl.send n tw m=n from if_neg h];exact⟨rfl,o1,⟨f1.mono (fun _ h=>h.elim),.of_same fun v=>G.block g v⟩,m1,_,S1,R1⟩
 have L:(n.out.length:Int)<400:=by omega
 go_wp2_with (refine Zaj (n:=1) rfl rfl rfl rfl (by kernel_rfl) rfl I (by simp) rfl ?_);intro w2 p j
 go_wp2_with (refine Zaj (n:=1) rfl rfl rfl rfl (by kernel_rfl) rfl p (by simp) rfl ?_);intro w3 c A
 have c:Blk w3 w.heap.size 90 #[.int .i64 n.me,.int .i64 tw,.int .i64 m.kind,.int .i64 m.bat.author,.int .i64 m.bat.number,vt,.int .i64 m.hdr.author,.int .i64 m.hdr.round,vb,vp,.int .i64 m.slt.author,.int .i64 m.slt.round,vd,.int .i64 m.crt.hdr.author,.int .i64 m.crt.hdr.round,cb,cp,cv,.int .i64 m.round]:=c;have f2:=Zap l1 j d;have f3:=Zap f2.lim A d;have r:∀k,¬((i,k):Nat×Nat)=(7,w.heap.size):=fun k e=>by injection e;omega
 have S3:=(S1.fr f2 m1 (by simp)).fr f3 m1 (by simp);have R3:=(R1.fr f2 r).fr f3 r;have F1:NFr i tb g off o w o1 W:=⟨f1.mono (fun _ h=>h.elim),.of_same fun v=>G.block g v⟩;have F3:=(F1.step m1 f2 (fun t ht=>.inr ⟨by rw[ht],by rw[ht];exact Za _⟩) (by omega)).step m1 f3 (fun t ht=>.inr ⟨by rw[ht],by rw[ht];exact Za _⟩) (by omega);have r3:=(r1.mono f2.view).mono f3.view;have l3:=f3.lim;clear S1 R1 I p j A f2 F1 r1 s0 s13 a E D;have H:(send n tw m).out=n.out++[{ m with src:=n.me,dst:=tw }]:=by unfold Fl.send;rw[if_pos h]
 go_wp2_with fail;refine Zt (fun w'=>Below w3.heap.size w3 w') (fun w'=>Blk w' w.heap.size 90 #[.int .i64 n.me,.int .i64 tw,.int .i64 m.kind,.int .i64 m.bat.author,.int .i64 m.bat.number,vt,.int .i64 m.hdr.author,.int .i64 m.hdr.round,vb,vp,.int .i64 m.slt.author,.int .i64 m.slt.round,vd,.int .i64 m.crt.hdr.author,.int .i64 m.crt.hdr.round,cb,cp,cv,.int .i64 m.round]∧w'.cell? ⟨g,off+13,none⟩=some (.slice oA n.out.length oc)) [10] (.q 0 (.q 1 (.q 2 (.q 3 (.q 4 (.q 5 (.l 6 (.l 7 (.q 8 (.q 9 (.l 10 .nil))))))))))) ?_ ?_
 ·exact⟨Zad _,c.drew,S3.nd13⟩
 intro W4 f a;have f4:=Fr.of_below (T:=fun _=>False) l3 f;have S4:=S3.fr f4 m1 (fun h=>h);have R4:=R3.fr f4 (fun _ h=>h);have F4:=F3.below f;have r4:=r3.mono f4.view;have l4:=f4.lim;have C:=a.1
 repeat((first|refine pq (h:=⟨_,fun w' a=>by(have P:=a.2;go_simp;exact rfl),?_⟩)|refine Zq ?_);simp only[sx])
 refine pl_q (by assumption) rfl rfl ?_;apply Exists.intro;refine⟨fun w' a=>Zfv 90 _ rfl _ rfl _ _ (0,0) _ (a.1) underlying90 rfl (by kernel_rfl),?_⟩;simp only[List.getElem_toArray,List.getElem_cons_zero,List.getElem_cons_succ,Act.put,List.setIfInBounds_toArray,List.set_cons_zero,List.set_cons_succ]
 repeat(refine Zq ?_;simp only[sx])
 refine Zd fun K b=>?_
 try simp only[sy]
 go_simp;have z:=Zac W4 (.cells #[.int .i64 n.me,.int .i64 tw,.int .i64 m.kind,.int .i64 m.bat.author,.int .i64 m.bat.number,vt,.int .i64 m.hdr.author,.int .i64 m.hdr.round,vb,vp,.int .i64 m.slt.author,.int .i64 m.slt.round,vd,.int .i64 m.crt.hdr.author,.int .i64 m.crt.hdr.round,cb,cp,cv,.int .i64 m.round] 90);refine b.out _ _ (⟨a.1.kept z,Zaa z _ _ a.2⟩) fun a=>?_
 clear b K
 try simp only[sx]
 repeat(refine Zq ?_;simp only[sx])
 refine Zd fun K b=>?_
 try simp only[sy]
 refine Zcf (n:=140737488355328) RMsgZ.mono {m with src:=n.me,dst:=tw } [.int .i64 n.me,.int .i64 tw,.int .i64 m.kind,.int .i64 m.bat.author,.int .i64 m.bat.number,vt,.int .i64 m.hdr.author,.int .i64 m.hdr.round,vb,vp,.int .i64 m.slt.author,.int .i64 m.slt.round,vd,.int .i64 m.crt.hdr.author,.int .i64 m.crt.hdr.round,cb,cp,cv,.int .i64 m.round] Zjs _ _ rfl rfl R4.ou l4 (by simp;omega) rfl rfl rfl x.out ⟨⟨_,_,_,_,_,_,_,rfl,r4.txs,r4.bats,r4.pars,r4.dig,r4.cbats,r4.cpars,r4.vots⟩,O⟩ (Za _) (by omega) (by omega) (fun v' w5 o5 r5 f5=>?_);have S5:=S4.fr f5 m1 (by simp;omega);have m5:=Zb6 S4.lt f5 m1 (by simp;omega);have R5:=R4.ou' f5 r5;have F5:=F4.step m1 f5 (fun t ht=>.inl (by rw[ht])) (by omega);obtain⟨A5,c5,rfl⟩:=r5.form;have F:=Zn0 C f5 d (by simp;omega);refine b.out _ _ (⟨F,S5.nd13⟩) fun a=>?_
 clear b K
 try simp only[sx]
 repeat(refine Zq ?_;simp only[sx])
 refine Zc fun K b=>?_
 try simp only[sy]
 refine Sec.wp_store S5 (i:=13) [.slice A5 (n.out++[{ m with src:=n.me,dst:=tw }]).length c5] (show 13+1≤15 by decide) rfl rfl rfl (by kernel_rfl) rfl rfl ?_;intro w6 S6 y M;have R6:=R5.fr (Zap F5.fr.lim y m5) (fun k e=>by injection e;omega);have F6:=F5.store m5 y M (show 13+1≤15 by decide);refine b.out _ _ ?_;clear b K
 try simp only[sx]
 repeat(refine Zq ?_;simp only[sx])
 refine Zai ?_;go_wp2;go_end0;rw[show Fl.send n tw m={ n with out:=n.out++[{ m with src:=n.me,dst:=tw }] } from if_pos h];exact⟨rfl,o5,F6,m5,_,S6.putOu,R6⟩
theorem Zkq(i tb g off:Nat)(n:Nd)(m:Msg)(vt vb vp vd cb cp cv:Value)(o:Own)(w:World)(R:Lim o w)(hi:i<5)(hN:NodeAt o w i tb g off n)(P:RMsg (Zas o w) m vt vb vp vd cb cp cv)(Y:∀s∈m.bat.txs,s.size≤140737488355328) :
 Calls prog 133 #[.pointer (some ⟨g,off,none⟩),.agg (msgC m vt vb vp vd cb cp cv)] w fun e w'=>e=.returned (.bool (keep n m).2)∧∃o',NFr i tb g off o w o' w'∧NodeAt o' w' i tb g off (keep n m).1:=by
 obtain⟨r,⟨vtx,vba,vdi,vta,vda,vow,vmi,vvo,vtp,vou⟩,f,N⟩:=hN;have hg:=f.lt;have J:=P;obtain⟨⟨tA,tc,rfl⟩,⟨bA,bc,rfl⟩,⟨pA,pc,rfl⟩,⟨dA,dc,rfl⟩,⟨cA,cc,rfl⟩,⟨qA,qc,rfl⟩,⟨vA,vc,rfl⟩⟩:=J.forms;have X:=Zb Y;clear J Y;obtain⟨QE,D⟩:∃q,Hid (Zfr n m=q):=⟨_,rfl⟩;obtain⟨QL,A⟩:∃q,Hid (appL n.tl n.ty m=q):=⟨_,rfl⟩;obtain⟨QA,G⟩:∃q,Hid (appA n.tl n.ty m=q):=⟨_,rfl⟩
 have v:Hid (keep n m=if QE=0 then({ n with tl:=QL,ty:=QA },true)else(n,false)):=by
  show _=_;unfold Fl.keep kept;rw[D.out,A.out,G.out]
 rw[v.out];clear v;obtain⟨tpA,tpc,C,_⟩:=id N.tp;have C:vtp=.slice tpA n.tl.length tpc:=C;subst C;unfold msgC;go_enter func133,ntmps133;go_upto_region 1 with fail;refine Zo fun W M Z F=>?_
 have M:=Zb M;have s11:=Zaa F _ _ f.nd11;have s12:=Zaa F _ _ f.nd12;simp only at s11 s12;have rtp:=(N.tp.mono (Zah o w)).mono (Zaa F);have rm:=(P.mono (Zah o w)).mono (Zaa F)
 go_cut [5,6] (fun p e w'=>∃gb A5 c5,p=.pointer (some ⟨gb,0,none⟩)∧e=.int .i64 QE∧Blk w' gb 110 #[.slice A5 QL.length c5,.int .i64 QA]∧Below W.heap.size W w'∧Zan (View.from w'.cell? W.heap.size) (.slice A5 QL.length c5) QL)
 case first =>
  refine Zr [11] (.q 0 (.q 1 (.q 2 (.q 3 (.q 4 (.alt 5 (.q 6 (.q 7 (.q 8 (.l 9 (.l 10 (.qc 11 .nil)))))) 9 (.l 5 (.q 6 (.q 7 (.q 8 (.l 10 (.qc 11 .nil)))))))))))) fun W3 b=>?_
  repeat((first|refine pq (h:=⟨_,fun w' f=>by(have h1:=Zaa f _ _ s11;have h2:=Zaa f _ _ s12;go_simp;exact rfl),?_⟩)|refine Zq ?_);simp only[sx])
  refine pl_q (by assumption) rfl rfl ?_;apply Exists.intro;refine⟨fun w' f=>Zfv 90 _ rfl _ rfl _ _ (0,0) _ (M.out.kept f) underlying90 rfl (by kernel_rfl),?_⟩;simp only[List.getElem_toArray,List.getElem_cons_zero,List.getElem_cons_succ,Act.put,List.setIfInBounds_toArray,List.set_cons_zero,List.set_cons_succ]
  repeat(refine Zq ?_;simp only[sx])
  refine Zcm ?_ ?_
  ·refine Zd fun K d=>?_
   try simp only[sy]
   go_simp;refine(Zn2 n.ty _ n.tl m _ _ _ _ _ _ _ _ (rtp.mono (Zaa b)) (rm.mono (Zaa b)) X.out).mono ?_;rintro e w5 ⟨d5,rfl,x,rd5⟩;rw[show appE n.tl n.ty m=QE from D.out,G.out];rw[A.out]at rd5;have c:=b.trans (x.mono b.size);obtain⟨A5,c5,rfl,B⟩:=id rd5;clear B;refine d.out _ _ (c) fun f=>?_
   clear d K
   try simp only[sx]
   repeat(refine Zq ?_;simp only[sx])
   refine Zd fun K d=>?_
   try simp only[sy]
   go_simp;have z:=Blk.new w5 110 #[.slice none 0 0,.int .i64 0];have j:=Zac w5 (.cells #[.slice none 0 0,.int .i64 0] 110);have a:=c.trans (j.mono c.size);have L:=c.size;refine d.out _ _ (a) fun f=>?_
   clear d K
   try simp only[sx]
   repeat(refine Zq ?_;simp only[sx])
   refine Zd fun K d=>?_
   try simp only[sy]
   refine Zh 2 z ?_;intro w7 E t;have u:Below W.heap.size W w7:=Zab a a.size t (by intro k e;injection e;omega);have rd7:=(rd5.mono (Za0 _ ((Zel j (Za _)).trans (Zbn t)))).mono (Zbm (b':=W.heap.size) b.size);refine d.out _ _ (u) fun f=>?_
   clear d K
   try simp only[sx]
   repeat(refine Zq ?_;simp only[sx])
   refine Zai ?_;go_wp2_with fail;go_meet;exact⟨_,A5,c5,rfl,rfl,E,u,rd7⟩
  ·refine Zd fun K d=>?_
   try simp only[sy]
   go_simp;have z:=Blk.new W3 110 #[.slice none 0 0,.int .i64 0];have j:=Zac W3 (.cells #[.slice none 0 0,.int .i64 0] 110);have a:=b.trans (j.mono b.size);have L:=b.size;refine d.out _ _ (a) fun f=>?_
   clear d K
   try simp only[sx]
   repeat(refine Zq ?_;simp only[sx])
   refine Zd fun K d=>?_
   try simp only[sy]
   go_simp;refine(Zn2 n.ty _ n.tl m _ _ _ _ _ _ _ _ (rtp.mono (Zaa a)) (rm.mono (Zaa a)) X.out).mono ?_;rintro e w5 ⟨d5,rfl,x,rd5⟩;rw[show appE n.tl n.ty m=QE from D.out,G.out];rw[A.out]at rd5;have c:=a.trans (x.mono a.size);have O:=z.kept x;have Q:=x.size;simp at Q;obtain⟨A5,c5,rfl,B⟩:=id rd5;clear B;refine d.out _ _ (c) fun f=>?_
   clear d K
   try simp only[sx]
   repeat(refine Zq ?_;simp only[sx])
   refine Zd fun K d=>?_
   try simp only[sy]
   refine Zh 2 O ?_;intro w7 E t;have u:Below W.heap.size W w7:=Zab c c.size t (by intro k e;injection e;omega);have rd7:=(rd5.mono (Zjr t (by simp))).mono (Zbm (b':=W.heap.size) a.size);refine d.out _ _ (u) fun f=>?_
   clear d K
   try simp only[sx]
   repeat(refine Zq ?_;simp only[sx])
   refine Zai ?_;go_wp2_with fail;go_meet;exact⟨_,A5,c5,rfl,rfl,E,u,rd7⟩
 case rest =>
  obtain⟨gb,A5,c5,rfl,rfl,V,S,rd⟩:=hcut;have H:=F.trans (S.mono F.size);have fc:=Fr.of_below (T:=fun _=>False) R H;have Sc:=f.fr fc r (fun h=>h);have Rc:=N.fr fc (fun _ h=>h);have Fc:NFr i tb g off o w o wc:=(NFr.refl R).below H;have lc:=fc.lim;have rh:=rd.mono (Zbz (Zam R F));clear s11 s12 rtp rm f N P M
  by_cases U:QE=0
  ·subst U;have b0:=V.cell 0;have b1:=V.cell 1;simp at b0 b1;go_wp2_with (refine Sec.store Sc (i:=11) [.slice A5 QL.length c5,.int .i64 QA] (show 11+2≤15 by decide) rfl rfl rfl rfl (by kernel_rfl) rfl rfl ?_);intro w6 S6 I h6;have R6:=(Rc.setTp (y:=QA) rh).fr (Zap lc I r) (fun k e=>by injection e;omega);have F6:=Fc.store r I h6 (show 11+2≤15 by decide);go_wp2;go_ret;exact⟨rfl,o,F6,r,_,S6.putTp,R6⟩
  ·go_wp2;go_ret
   first|exact⟨rfl,o,Fc,r,_,Sc,Rc⟩|(simp only[U,if_false];exact⟨rfl,o,Fc,r,_,Sc,Rc⟩)
theorem Zu8(d x:Value)(y ds:List UInt8)(g:Nat)(w:World)(b:w.cell? ⟨g,0,none⟩=some x)(hd:Zan w.cell? d y)(a:Zan w.cell? x ds) :
 Calls prog 180 (#[d]++#[.pointer (some ⟨g,0,none⟩)]) w fun e w'=>e=.returned (.bool (y==ds))∧Below w.heap.size w w':=by
 show Calls prog 180 #[d,.pointer (some ⟨g,0,none⟩)] w _;go_enter func180,ntmps180;go_wp2_with fail;refine(Zb7 _ _ y ds _ hd a).mono ?_;rintro e w' ⟨rfl,rfl⟩;go_wp2;go_ret;exact⟨rfl,Zm _ _⟩
theorem Zg9(i tb g off:Nat)(n:Nd)(vd:Value)(d:List UInt8)(o:Own)(w:World)(hN:NodeAt o w i tb g off n)(hd:Zan w.cell? vd d)(v:n.digs.length≤800) :
 Calls prog 132 #[.pointer (some ⟨g,off,none⟩),vd] w fun e w'=>e=.returned (.int .i64 (held n d))∧Below w.heap.size w w':=by
 obtain⟨u,⟨vtx,vba,vdi,vta,vda,vow,vmi,vvo,vtp,vou⟩,t,s⟩:=hN;have rdi:RDigs w.cell? vdi n.digs:=s.di.reads (bs:=24) Ze (by omega);obtain⟨A,c,rfl,f⟩:=id rdi;obtain⟨B,c',rfl,b⟩:=id hd;clear f b;have a:=Zac w (.cells #[.slice B d.length c'] 53);have j:=hd.mono (Zaa a);have l:=rdi.mono Ze (Zaa a);have k:=(Blk.new w 53 #[.slice B d.length c']).cell 0;have s5:=Zaa a _ _ t.nd5;simp only at s5;go_enter func132,ntmps132;go_wp2_with fail;refine(Zh1 180 #[.pointer (some ⟨w.heap.size,0,none⟩)] (·==d) (Zd1 func180 (by kernel_rfl) rfl) _ n.digs _ l (fun W x y q r=>Zu8 x _ y d _ W (Zaa q _ _ k) r (j.mono (Zaa q)))).mono ?_;rintro e w1 ⟨rfl,p⟩;have m:=a.trans (p.mono a.size);have e1:idxI (·==d) n.digs=held n d:=rfl;rw[e1];obtain⟨i,hi⟩:∃i,Hid (held n d=i):=⟨_,rfl⟩;clear j l k hd s5;go_wp2;go_ret;exact⟨rfl,m⟩
theorem Zwa(m:Msg)(n:Nd)(k:Nat)(a:k<4):(all4.take (k+1)).foldl (Zco m) n=Zco m ((all4.take k).foldl (Zco m) n) k:=by
 have:k=0∨k=1∨k=2∨k=3:=by omega
 rcases this with rfl|rfl|rfl|rfl<;>rfl
theorem Zwb(m:Msg)(n:Nd)(tw:Int)(h:n.out.length≤400):(Zco m n tw).out.length≤400:=by
 unfold Zco;split
 ·unfold send;split
  ·simp;omega
  ·exact h
 ·exact h
theorem Zpt(m:Msg):∀(l:List Int) (n:Nd),n.out.length≤400→(l.foldl (Zco m) n).out.length≤400
 |[],_,h=>h
 |i::l,n,h=>by rw[List.foldl_cons];exact Zpt m l _ (Zwb m n i h)
theorem Zid(i tb g off:Nat)(n:Nd)(m:Msg)(vt vb vp vd cb cp cv:Value)(o:Own)(w:World)(t:Lim o w)(hi:i<5)(hN:NodeAt o w i tb g off n)(A:RMsg (Zas o w) m vt vb vp vd cb cp cv)(F:∀s∈m.bat.txs,s.size≤140737488355328)(E:n.out.length≤400) :
 Calls prog 144 #[.pointer (some ⟨g,off,none⟩),.agg (msgC m vt vb vp vd cb cp cv)] w fun e w'=>e=.returned (.tuple #[])∧∃o',NFr i tb g off o w o' w'∧NodeAt o' w' i tb g off (tell n m):=by
 have r:=A;obtain⟨⟨tA,tc,rfl⟩,⟨bA,bc,rfl⟩,⟨pA,pc,rfl⟩,⟨dA,dc,rfl⟩,⟨cA,cc,rfl⟩,⟨qA,qc,rfl⟩,⟨vA,vc,rfl⟩⟩:=r.forms;clear r;have J:=Zb F;have H:=Zb E;clear F E;have z:=t.none w.heap.size (Za _);obtain⟨mc,d⟩:∃mc,Hid (msgC m (.slice tA m.bat.txs.length tc) (.slice bA m.hdr.batches.length bc) (.slice pA m.hdr.parents.length pc) (.slice dA m.slt.digest.length dc) (.slice cA m.crt.hdr.batches.length cc) (.slice qA m.crt.hdr.parents.length qc) (.slice vA m.crt.voters.length vc)=mc):=⟨_,rfl⟩;rw[d.out];go_enter func144,ntmps144;go_upto_region 1 with fail;refine Zo fun W B x u=>?_
 have B:=Zb B;have F1:NFr i tb g off o w o W:=(NFr.refl t).below u;have N1:=hN.below t u;have r1:=A.mono (Zaf t u);clear A hN x;go_wp2_with fail
 go_loopw [4,5] (fun _ c wr=>∃(k:Nat) (o':Own),k≤4∧c=.int .i64 k∧NFr i tb g off o W o' wr∧NodeAt o' wr i tb g off ((all4.take k).foldl (Zco m) n)) (fun _ c _=>4-(intOf c).toNat)
 case atStart=>exact⟨0,o,Zf _,rfl,NFr.refl (Zam t u),N1⟩
 case round =>
  obtain⟨k,o2,G,rfl,F2,N2⟩:=hrel
  by_cases v:k<4
  ·have f:(k:Int)<4:=by omega
   have D:Hid ((all4.take (k+1)).foldl (Zco m) n=Zco m ((all4.take k).foldl (Zco m) n) k):=Zwa m n k v;have l:=Zb (Zpt m (all4.take k) n H.out);generalize (all4.take k).foldl (Zco m) n=q at *;obtain⟨I,⟨ytx,yba,ydi,yta,yda,yow,ymi,yvo,ytp,you⟩,S2,R2⟩:=id N2;have s0:=S2.nd0;clear S2 R2
   by_cases b:(k:Int)=q.me
   ·have e1:Hid (Zco m q k=q):=by show _=_;unfold Zco;rw[if_neg (fun h=>h b)]
    have y:((k:Int)==q.me)=true:=by simpa using b
    have C:=Zb b;clear b;go_wp2;go_roundw
    case rel=>exact⟨k+1,o2,by omega,by go_num,F2,by rw[D.out,e1.out];exact N2⟩
    case measure=>simp[intOf];omega
   ·have e1:Hid (Zco m q k=send q k m):=by show _=_;unfold Zco;rw[if_pos b]
    have y:((k:Int)==q.me)=false:=by simpa using b
    have j:=Za3 B.out F2.fr z;have r2:=r1.mono F2.fr.view;have a:=Zfa i tb g off q k m _ _ _ _ _ _ _ o2 wr F2.fr.lim hi N2 r2 J.out l.out;rw[d.out]at a;have a:=Zb a;clear b r2;go_wp2_with (refine wpList_load_row rfl 90 _ rfl _ rfl _ _ _ _ j underlying90 rfl (by rw[←d.out];kernel_rfl) ?_);refine a.out.mono ?_;rintro e w3 ⟨rfl,o3,F3,N3⟩;clear a j;go_wp2;go_roundw
    case rel=>exact⟨k+1,o3,by omega,by go_num,F2.trans F3,by rw[D.out,e1.out];exact N3⟩
    case measure=>simp[intOf];omega
  ·have p:k=4:=by omega
   subst p;have f:¬((4:Nat):Int)<4:=by decide
   go_wp2;go_end0;exact⟨rfl,o2,F1.trans F2,N2⟩
end Fl
end Go.Proofs.YtbcpbnfojfiekaaGreatDoor
