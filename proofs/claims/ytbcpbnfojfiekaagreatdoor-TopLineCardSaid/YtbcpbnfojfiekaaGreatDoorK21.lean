/- A part of what the last text stands on. -/
import Derived.Test.YtbcpbnfojfiekaaGreatDoorK19
import Derived.Test.YtbcpbnfojfiekaaGreatDoorK20
namespace Go.Proofs.YtbcpbnfojfiekaaGreatDoor
open Go.ChangeShapes Go.WideShapes Go.ChangeAt Go.RowKit Go.Proofs.Tryz Qa Qb Qc
set_option linter.all false
set_option maxHeartbeats 20000000
set_option maxRecDepth 100000
variable{P:Program}{w:World}{cur:Array Value}{A:Option Addr}{h:View}{t te:TypeId}{k g c:Nat}{ms:List Msg}
theorem nilDs(h:View):RDigs h (.slice none 0 0) []:=⟨none,0,rfl,Za _,Zf _,by simp,fun _=>rfl,fun h=>by simp at h⟩
theorem RMsg.nils(h:View):RMsg h msg0 (.slice none 0 0) (.slice none 0 0) (.slice none 0 0) (.slice none 0 0) (.slice none 0 0) (.slice none 0 0) (.slice none 0 0) :=
 ⟨RVec.nil _ _ _,nilDs _,nilDs _,RVec.nil _ _ _,nilDs _,nilDs _,RVec.nil _ _ _⟩
def nilC:Value:=.slice none 0 0
theorem Zpp:∀(n:Nat) (p:List ByteArray×RS),(∀s∈p.1,s.size≤140737488355328)→∀s∈(it Zhj n p).1,s.size≤140737488355328
 |0,_,h=>h
 |n+1,p,h=>by
  have ih:=Zpp n p h
  show ∀s∈(Zhj (it Zhj n p)).1,_
  generalize it Zhj n p=q at ih⊢
  unfold Zhj
  split
  ·exact ih
  ·intro s b
   rcases List.mem_append.1 b with a|a
   ·exact ih s a
   ·rw[Zv a,Zmj]
    have c:=Zoc (nmV 1 q.2) (tkS 1 q.2)
    have d:=Zqd 1 q.2
    omega
theorem Zjv(a b k:Int)(s:RS):∀t∈(bodR a b k s).1.bat.txs,t.size≤140737488355328:=by
 have c:∀t∈bat0.txs,t.size≤140737488355328:=fun t ht=>by cases ht
 unfold bodR;split
 ·exact Zpp _ _ (fun t ht=>by cases ht)
 repeat' split
 all_goals exact c
theorem Zju(v:Value)(b:List UInt8)(w:World)(hr:Zan w.cell? v b) :
 Calls prog 60 #[v] w fun e w'=>∃vt vb vp vd cb cp cv,e=.returned (.tuple #[.agg (msgC (decM b) vt vb vp vd cb cp cv),.int .i64 (decE b)])∧Below w.heap.size w w'∧RMsg (View.from w'.cell? w.heap.size) (decM b) vt vb vp vd cb cp cv:=by
 obtain⟨A,c,rfl,hf⟩:=id hr;clear hf;obtain⟨M,hM⟩:∃M,Hid (decM b=M):=⟨_,rfl⟩;obtain⟨E,hE⟩:∃E,Hid (decE b=E):=⟨_,rfl⟩;rw[hM.out,hE.out];go_enter func60,ntmps60;go_upto_region 1 with fail;refine Zo fun W hk ax s2=>?_
 have cg:w.heap.size+1≤W.heap.size:=by omega
 clear ax
 by_cases c5:(4000:Int)<b.length
 ·have HE:Hid (E=1):=by show _=_;rw[←hE.out];unfold decE;rw[if_pos (by omega)]
  have HM:Hid (M=msg0):=by show _=_;rw[←hM.out];unfold decM;rw[if_neg (by rw[hE.out,HE.out];decide)]
  go_wp2_with (refine Zj 19 hk ?_);intro w8 Q a
  go_wp2;refine bodyPost_ret (Zag rfl rfl (by kernel_rfl) (by kernel_rfl) Q rfl) rfl ?_;rw[HM.out,HE.out];exact⟨nilC,nilC,nilC,nilC,nilC,nilC,nilC,rfl,Zab s2 s2.size a (by intro k e;injection e;omega),RMsg.nils _⟩
 go_upto_region 4 with fail;refine Zo fun W1 hB a4 aw=>?_
 have sg:=hB.lt;have gb:=s2.trans (aw.mono s2.size);have b1:=hk.kept aw;have sk:RdS W1 W1 W.heap.size (b,false):=⟨⟨_,hB,hr.mono (Zel gb (by omega))⟩,Zal _ (Zm _ _),sg⟩;obtain⟨g,hg⟩:∃g,g=W.heap.size:=⟨_,rfl⟩;rw[←hg]at sk hB sg⊢;have ca:w.heap.size+1≤g:=by omega
 clear a4 hg;obtain⟨V0,gh⟩:∃V,Hid (nmV 1 (b,false)=V):=⟨_,rfl⟩;obtain⟨S0,Z⟩:∃S,Hid (tkS 1 (b,false)=S):=⟨_,rfl⟩;go_wp2_with fail;refine(number_any W1 g 1 1 (b,false) W1 rfl (by decide) sk).mono ?_;rintro e w2 ⟨rfl,so,sr⟩;rw[gh.out];rw[Z.out]at sr;have a6:=b1.grown so (by simp;omega);have c9:=so.size;have a9:=so;clear sk hB b1;have hn:=Blk.new w2 90 #[.int .i64 0,.int .i64 0,.int .i64 0,.int .i64 0,.int .i64 0,.slice none 0 0,.int .i64 0,.int .i64 0,.slice none 0 0,.slice none 0 0,.int .i64 0,.int .i64 0,.slice none 0 0,.int .i64 0,.int .i64 0,.slice none 0 0,.slice none 0 0,.slice none 0 0,.int .i64 0];have a0:=Zac w2 (.cells #[.int .i64 0,.int .i64 0,.int .i64 0,.int .i64 0,.int .i64 0,.slice none 0 0,.int .i64 0,.int .i64 0,.slice none 0 0,.slice none 0 0,.int .i64 0,.int .i64 0,.slice none 0 0,.int .i64 0,.int .i64 0,.slice none 0 0,.slice none 0 0,.slice none 0 0,.int .i64 0] 90);go_wp2_with (refine Zj 19 hn ?_);intro W3 hX b9;have hX:Blk W3 w2.heap.size 90 #[.int .i64 0,.int .i64 0,.int .i64 V0,.int .i64 0,.int .i64 0,.slice none 0 0,.int .i64 0,.int .i64 0,.slice none 0 0,.slice none 0 0,.int .i64 0,.int .i64 0,.slice none 0 0,.int .i64 0,.int .i64 0,.slice none 0 0,.slice none 0 0,.slice none 0 0,.int .i64 0]:=hX;have sq:=Zab a0 a0.size b9 (by intro k e;injection e;omega);have bw:=hX.lt;clear hn a0 b9;have hy:=a6.kept sq;have sj:=sr.kept sq;have ae:W1.grownBy W3 (some g):=Zae a9 (Zal _ sq);clear sr a6
 have L:Below w.heap.size w W3:=by
  have h1:=Zab gb gb.size ae (by intro k e;injection e;omega);exact h1
 have x2:=hX.cell 2;simp at x2
 by_cases au:b.length=0
 ·have bh:b=[]:=List.eq_nil_of_length_eq_zero au;subst bh;have HE:Hid (E=5):=by show _=_;rw[←hE.out];rfl
  have HM:Hid (M=msg0):=by show _=_;rw[←hM.out];unfold decM;rw[if_neg (by rw[hE.out,HE.out];decide)]
  have ap:V0=0:=by rw[←gh.out];rfl
  have ah:S0=([],true):=by rw[←Z.out];rfl
  subst ap ah;go_wp2_with fail;refine(number_any W1 g 1 1 ([],true) W3 rfl (by decide) sj).mono ?_;rintro e w4 ⟨rfl,u,ht⟩;go_wp2_with fail;refine(number_any W1 g 1 1 ([],true) w4 rfl (by decide) ht).mono ?_;rintro e w5 ⟨rfl,C,g2⟩;have s4:=(hX.grown u (by simp;omega)).grown C (by simp;omega);have gw:=(hy.grown u (by simp;omega)).grown C (by simp;omega);have b7:nmV 1 (([],true):RS)=0:=rfl;have b2:tkS 1 (([],true):RS)=([],true):=rfl;rw[b2]at ht g2;simp only[b7];clear b7 b2 x2 hX hy;go_wp2_with (refine Zaj (n:=1) rfl rfl rfl rfl (by kernel_rfl) rfl s4 (by simp) rfl ?_);intro w6 gs U;go_wp2_with (refine Zaj (n:=1) rfl rfl rfl rfl (by kernel_rfl) rfl gs (by simp) rfl ?_);intro w7 m h4;have m:Blk w7 w2.heap.size 90 #[.int .i64 0,.int .i64 0,.int .i64 0,.int .i64 0,.int .i64 0,.slice none 0 0,.int .i64 0,.int .i64 0,.slice none 0 0,.slice none 0 0,.int .i64 0,.int .i64 0,.slice none 0 0,.int .i64 0,.int .i64 0,.slice none 0 0,.slice none 0 0,.slice none 0 0,.int .i64 0]:=m;have gx:=(gw.grown U (by simp;omega)).grown h4 (by simp;omega);have I:=(g2.step U (fun q j=>by injection j with j;omega)).step h4 (fun q j=>by injection j with j;omega);have x2:=m.cell 2;simp at x2;obtain⟨vr,be,_⟩:=I.blk;have g1:=be.cell 1;simp at g1;have t:Below w.heap.size w w7:=Zab (Zab (Zab (Zab L L.size u (by intro k e;injection e;omega)) (by have:=u.size;omega) C (by intro k e;injection e;omega)) (by have:=u.size;have:=C.size;omega) U (by intro k e;injection e;omega)) (by have:=u.size;have:=C.size;have:=U.size;omega) h4 (by intro k e;injection e;omega);go_wp2_with (refine Zj 19 gx ?_);intro w8 Q a;go_wp2;refine bodyPost_ret (Zag rfl rfl (by kernel_rfl) (by kernel_rfl) Q rfl) rfl ?_;rw[HM.out,HE.out];exact⟨nilC,nilC,nilC,nilC,nilC,nilC,nilC,rfl,Zab t t.size a (by intro k e;injection e;omega),RMsg.nils _⟩
 by_cases sf:V0<1∨5<V0
 ·have HE:Hid (E=3):=by show _=_;rw[←hE.out];unfold decE;rw[gh.out,if_neg (by omega),if_neg (by omega),if_pos sf]
  have HM:Hid (M=msg0):=by show _=_;rw[←hM.out];unfold decM;rw[if_neg (by rw[hE.out,HE.out];decide)]
  have bd:(0:Int)<b.length:=by omega
  by_cases ck:V0<1
  ·have bo:(V0:Int)<1:=by omega
   go_wp2_with (refine Zj 19 hy ?_);intro w8 Q a
   go_wp2;refine bodyPost_ret (Zag rfl rfl (by kernel_rfl) (by kernel_rfl) Q rfl) rfl ?_;rw[HM.out,HE.out];exact⟨nilC,nilC,nilC,nilC,nilC,nilC,nilC,rfl,Zab L L.size a (by intro k e;injection e;omega),RMsg.nils _⟩
  ·have bo:¬(V0:Int)<1:=by omega
   have c7:(5:Int)<V0:=by omega
   go_wp2_with (refine Zj 19 hy ?_);intro w8 Q a
   go_wp2;refine bodyPost_ret (Zag rfl rfl (by kernel_rfl) (by kernel_rfl) Q rfl) rfl ?_;rw[HM.out,HE.out];exact⟨nilC,nilC,nilC,nilC,nilC,nilC,nilC,rfl,Zab L L.size a (by intro k e;injection e;omega),RMsg.nils _⟩
 have bd:(0:Int)<b.length:=by omega
 have hx:¬(V0:Int)<1:=by omega
 have hw:¬(5:Int)<V0:=by omega
 obtain⟨V1,sn⟩:∃V,Hid (nmV 1 S0=V):=⟨_,rfl⟩;obtain⟨S1,a1⟩:∃S,Hid (tkS 1 S0=S):=⟨_,rfl⟩;obtain⟨V2,st⟩:∃V,Hid (nmV 1 S1=V):=⟨_,rfl⟩;obtain⟨S2,sm⟩:∃S,Hid (tkS 1 S1=S):=⟨_,rfl⟩;obtain⟨⟨MR,SR⟩,D⟩:∃p,Hid (bodR V1 V2 V0 S2=p):=⟨_,rfl⟩;have HR:Hid (msgR b=(MR,SR)):=by show _=_;rw[←D.out];unfold msgR;rw[Z.out,a1.out,sm.out,gh.out,sn.out,st.out]
 have HE:Hid (E=if SR.2 then 5 else if 0<SR.1.length then 4 else msgF MR):=by
  show _=_;rw[←hE.out];unfold decE;rw[gh.out,HR.out,if_neg (by omega),if_neg (by omega),if_neg sf]
 have HM:Hid (M=if E=0 then MR else msg0):=by show _=_;rw[←hM.out];unfold decM;rw[hE.out,HR.out]
 have hl:=Zb (Zjv V1 V2 V0 S2);rw[D.out]at hl;clear HR hM hE;go_wp2_with fail;refine(number_any W1 g 1 1 S0 W3 rfl (by decide) sj).mono ?_;rintro e w4 ⟨rfl,u,ht⟩;rw[sn.out];rw[a1.out]at ht;have ay:=hX.grown u (by simp;omega);have af:=hy.grown u (by simp;omega);clear sj hX hy x2;go_wp2_with fail;refine(number_any W1 g 1 1 S1 w4 rfl (by decide) ht).mono ?_;rintro e w5 ⟨rfl,C,g2⟩;rw[st.out];rw[sm.out]at g2;have s4:=ay.grown C (by simp;omega);have gw:=af.grown C (by simp;omega);clear ht ay af;go_wp2_with (refine Zaj (n:=1) rfl rfl rfl rfl (by kernel_rfl) rfl s4 (by simp) rfl ?_);intro w6 gs U;go_wp2_with (refine Zaj (n:=1) rfl rfl rfl rfl (by kernel_rfl) rfl gs (by simp) rfl ?_);intro w7 m h4;have m:Blk w7 w2.heap.size 90 #[.int .i64 V1,.int .i64 V2,.int .i64 V0,.int .i64 0,.int .i64 0,.slice none 0 0,.int .i64 0,.int .i64 0,.slice none 0 0,.slice none 0 0,.int .i64 0,.int .i64 0,.slice none 0 0,.int .i64 0,.int .i64 0,.slice none 0 0,.slice none 0 0,.slice none 0 0,.int .i64 0]:=m;have gx:=(gw.grown U (by simp;omega)).grown h4 (by simp;omega);have I:=(g2.step U (fun q j=>by injection j with j;omega)).step h4 (fun q j=>by injection j with j;omega);have t:Below w.heap.size w w7:=Zab (Zab (Zab (Zab L L.size u (by intro k e;injection e;omega)) (by have:=u.size;omega) C (by intro k e;injection e;omega)) (by have:=u.size;have:=C.size;omega) U (by intro k e;injection e;omega)) (by have:=u.size;have:=C.size;have:=U.size;omega) h4 (by intro k e;injection e;omega);have bi:=m.lt;have br:g<w7.heap.size:=by have:=u.size;have:=C.size;have:=U.size;have:=h4.size;omega
 have cd:g≠w2.heap.size:=by omega
 have cj:w2.heap.size≠g:=by omega
 clear s4 gw g2 gs u C U h4 Z a1 sm sn st;have x2:=m.cell 2;simp at x2
 go_upto_block 0 with fail
 go_cut [6,39] (fun _ _ w'=>∃vt vb vp vd cb cp cv,Blk w' w2.heap.size 90 (msgC MR vt vb vp vd cb cp cv)∧RMsg (View.from w'.cell? w7.heap.size) MR vt vb vp vd cb cp cv∧RdS W1 w' g SR∧Chg [g,w2.heap.size] w7 w')
 case first =>
  have h8:=Chg.refl [g,w2.heap.size] w7;have O:∀q,some g=some q→q∈[g,w2.heap.size]∨w7.heap.size≤q:=fun q j=>.inl (by injection j with j;subst j;simp)
  have h5:∀q,some w2.heap.size=some q→q∈[g,w2.heap.size]∨w7.heap.size≤q:=fun q j=>.inl (by injection j with j;subst j;simp)
  have H:∀q,some w2.heap.size=some q→W1.heap.size≤q:=fun q j=>by injection j with j;omega
  rcases(show V0=1∨V0=2∨V0=3∨V0=4∨V0=5 by omega)with rfl|rfl|rfl|rfl|rfl
  ·obtain⟨⟨Bt,St⟩,ar⟩:∃p,Hid (batR S2=p):=⟨_,rfl⟩
   have o:Hid (MR=⟨V1,V2,1,Bt,hdr0,slt0,crt0,0⟩∧SR=St):=by
    have h:=D.out;simp[bodR,ar.out]at h;exact⟨h.1.symm,h.2.symm⟩
   clear D hx hw;go_wp2_with fail;refine(Zrp W1 g S2 w7 I).mono ?_;rintro e w8 ⟨vt,rfl,a,r,ga⟩;rw[ar.out]at r ga⊢;have y:=m.grown a (by simp;omega);obtain⟨tA,tc,rfl,hf⟩:=id ga;clear hf I m x2;go_wp2_with (refine Zaj (n:=3) rfl rfl rfl rfl (by kernel_rfl) rfl y (by simp) rfl ?_);intro w9 x f;go_wp2;go_meet;rw[o.out.1,o.out.2];refine⟨_,nilC,nilC,nilC,nilC,nilC,nilC,x,?_,r.step f H,(h8.new a O).new f h5⟩;have hn:=RMsg.nils (View.from w9.cell? w7.heap.size);exact⟨ga.mono (Zbk f (by omega)),hn.bats,hn.pars,hn.dig,hn.cbats,hn.cpars,hn.vots⟩
  ·obtain⟨⟨T,St⟩,g9⟩:∃p,Hid (hdrR S2=p):=⟨_,rfl⟩
   have o:Hid (MR=⟨V1,V2,2,bat0,T,slt0,crt0,0⟩∧SR=St):=by
    have h:=D.out;simp[bodR,g9.out]at h;exact⟨h.1.symm,h.2.symm⟩
   clear D hx hw;go_wp2_with fail;refine(Zll W1 g S2 w7 I).mono ?_;rintro e w8 ⟨vb,vp,rfl,a,r,J,h6⟩;rw[g9.out]at r J h6⊢;have y:=m.grown a (by simp;omega);obtain⟨bA,bc,rfl,hf⟩:=id J;clear hf;obtain⟨pA,pc,rfl,hf⟩:=id h6;clear hf I m x2;go_wp2_with (refine Zaj (n:=4) rfl rfl rfl rfl (by kernel_rfl) rfl y (by simp) rfl ?_);intro w9 x f;go_wp2;go_meet;rw[o.out.1,o.out.2];refine⟨nilC,_,_,nilC,nilC,nilC,nilC,x,?_,r.step f H,(h8.new a O).new f h5⟩;have hn:=RMsg.nils (View.from w9.cell? w7.heap.size);exact⟨hn.txs,J.mono Ze (Zbk f (by omega)),h6.mono Ze (Zbk f (by omega)),hn.dig,hn.cbats,hn.cpars,hn.vots⟩
  ·obtain⟨Y1,gj⟩:∃Y,Hid (nmV 1 S2=Y):=⟨_,rfl⟩;obtain⟨Z1,g5⟩:∃Y,Hid (tkS 1 S2=Y):=⟨_,rfl⟩;obtain⟨Y2,b5⟩:∃Y,Hid (nmV 3 Z1=Y):=⟨_,rfl⟩;obtain⟨Z2,a7⟩:∃Y,Hid (tkS 3 Z1=Y):=⟨_,rfl⟩;obtain⟨Y3,al⟩:∃Y,Hid (tkB 32 Z2=Y):=⟨_,rfl⟩;obtain⟨Z3,b8⟩:∃Y,Hid (tkS 32 Z2=Y):=⟨_,rfl⟩
   have o:Hid (MR=⟨V1,V2,3,bat0,hdr0,⟨Y1,Y2,Y3⟩,crt0,0⟩∧SR=Z3):=by
    have h:=D.out;simp[bodR,sltR,gj.out,b5.out,al.out,g5.out,a7.out,b8.out]at h;exact⟨h.1.symm,h.2.symm⟩
   clear D hx hw;go_wp2_with fail;refine(number_any W1 g 1 1 S2 w7 rfl (by decide) I).mono ?_;rintro e w8 ⟨rfl,a,r⟩;rw[gj.out];rw[g5.out]at r;have y:=m.grown a (by simp;omega);clear I m x2;go_wp2_with fail;refine(number_any W1 g 3 3 Z1 w8 rfl (by decide) r).mono ?_;rintro e w9 ⟨rfl,f,hs⟩;rw[b5.out];rw[a7.out]at hs;have x:=y.grown f (by simp;omega);clear r y;go_wp2_with fail;refine(Zig W1 g 32 32 Z2 w9 rfl (by decide) hs).mono ?_;rintro e w10 ⟨d,rfl,R,h7,gf⟩;rw[b8.out]at h7;rw[al.out]at gf;have g8:=x.grown R (by simp;omega);obtain⟨dA,dc,rfl,hf⟩:=id gf;clear hf hs x;go_wp2_with (refine Zaj (n:=3) rfl rfl rfl rfl (by kernel_rfl) rfl g8 (by simp) rfl ?_);intro w11 hh P;go_wp2;go_meet;rw[o.out.1,o.out.2];refine⟨nilC,nilC,nilC,_,nilC,nilC,nilC,hh,?_,h7.step P H,(((h8.new a O).new f O).new R O).new P h5⟩;have hn:=RMsg.nils (View.from w11.cell? w7.heap.size);exact⟨hn.txs,hn.bats,hn.pars,(gf.mono (Zd6 (by have:=a.size;have:=f.size;omega))).mono (Zbk P (by omega)),hn.cbats,hn.cpars,hn.vots⟩
  ·obtain⟨⟨T,St⟩,g9⟩:∃p,Hid (hdrR S2=p):=⟨_,rfl⟩;obtain⟨N,hN⟩:∃Y,Hid (nmV 1 St=Y):=⟨_,rfl⟩;have bq:N<256:=by rw[←hN.out];exact Zqd 1 St
   obtain⟨s1,gi⟩:∃Y,Hid (tkS 1 St=Y):=⟨_,rfl⟩;obtain⟨X,a8⟩:∃X,Hid (it Zk7 N ([],s1)=X):=⟨_,rfl⟩
   have o:Hid (MR=⟨V1,V2,4,bat0,hdr0,slt0,⟨T,X.1⟩,0⟩∧SR=X.2):=by
    have h:=D.out;have hv:Zv4 St=X:=by rw[←a8.out,←hN.out,←gi.out];rfl
    simp[bodR,crtR,g9.out,hv]at h;exact⟨h.1.symm,h.2.symm⟩
   clear D hx hw;go_wp2_with fail;refine(Zll W1 g S2 w7 I).mono ?_;rintro e w8 ⟨vb,vp,rfl,a,r,J,h6⟩;rw[g9.out]at r J h6⊢;have y:=m.grown a (by simp;omega);obtain⟨bA,bc,rfl,hf⟩:=id J;clear hf;obtain⟨pA,pc,rfl,hf⟩:=id h6;clear hf I m x2;go_wp2_with (refine Zaj (n:=4) rfl rfl rfl rfl (by kernel_rfl) rfl y (by simp) rfl ?_);intro w9 x f;have x:Blk w9 w2.heap.size 90 #[.int .i64 V1,.int .i64 V2,.int .i64 4,.int .i64 0,.int .i64 0,.slice none 0 0,.int .i64 0,.int .i64 0,.slice none 0 0,.slice none 0 0,.int .i64 0,.int .i64 0,.slice none 0 0,.int .i64 T.author,.int .i64 T.round,.slice bA T.batches.length bc,.slice pA T.parents.length pc,.slice none 0 0,.int .i64 0]:=x;have hs:=r.step f H;have b6:=J.mono Ze (Zbk f (by omega));have ag:=h6.mono Ze (Zbk f (by omega));have sd:=(h8.new a O).new f h5;have cl:=sd.size;clear r y J h6;go_wp2_with fail;refine(number_any W1 g 1 1 St w9 rfl (by decide) hs).mono ?_;rintro e w10 ⟨rfl,R,h7⟩;rw[hN.out];rw[gi.out]at h7;have g8:=x.grown R (by simp;omega);have sa:=b6.mono Ze (Zbk R (by omega));have si:=ag.mono Ze (Zbk R (by omega));have hb:=sd.new R O;have sc:=hb.size;clear hs x b6 ag hN gi;go_wp2_with fail
   go_loopw [6] (fun i wr=>∃(k:Nat) (z:Int) (p:List Int×RS) (v:Value),i=.int .i64 z∧Hid (z=(N:Int)-k)∧Hid (k≤N)∧0≤z∧z≤255∧Hid (it Zk7 k ([],s1)=p)∧Hid (p.1.length≤k)∧Blk wr w2.heap.size 90 #[.int .i64 V1,.int .i64 V2,.int .i64 4,.int .i64 0,.int .i64 0,.slice none 0 0,.int .i64 0,.int .i64 0,.slice none 0 0,.slice none 0 0,.int .i64 0,.int .i64 0,.slice none 0 0,.int .i64 T.author,.int .i64 T.round,.slice bA T.batches.length bc,.slice pA T.parents.length pc,v,.int .i64 0]∧OwnI wr w10.heap.size v p.1∧RdS W1 wr g p.2∧Chg [g,w2.heap.size] w10 wr) (fun i _=>(intOf i).toNat)
   case atStart=>exact⟨0,(N:Int),([],s1),_,rfl,by show _=_;omega,Zf _,by omega,by omega,rfl,Zf _,g8,OwnVec.nil _ _ _ _,h7,.of_below (Zm _ _) (Za _)⟩
   case round =>
    obtain⟨k,z,p,v,rfl,hz,gd,cf,bf,hp,s0,gq,s,gu,G⟩:=hrel;obtain⟨acc,l,sh⟩:=p;replace s:OwnI wr w10.heap.size v acc:=s;have done:(it Zk7 N ([],s1)=(acc,(l,sh)))→Hid (X=(acc,(l,sh))):=fun h=>by show _=_;rw[←a8.out,h]
    obtain⟨vr,hB,s3⟩:=gu.blk;clear s3;have g1c:=hB.cell 1;simp at g1c;have ch:=G.size;have bb:Hid (g<w10.heap.size):=by show _<_;omega
    by_cases c8:0<z
    ·cases sh
     ·have hn:Hid (it Zk7 (k+1) ([],s1)=(acc++[(nmV 1 (l,false):Int)],tkS 1 (l,false))):=by
       show Zk7 (it Zk7 k ([],s1))=_;rw[hp.out];rfl
      obtain⟨N1,an⟩:∃N,Hid (nmV 1 (l,false)=N):=⟨_,rfl⟩;obtain⟨Y,hY⟩:∃Y,Hid (tkS 1 (l,false)=Y):=⟨_,rfl⟩;rw[an.out,hY.out]at hn;have hc:acc.length≤255:=by have h1:acc.length≤k:=s0.out;have h2:k≤N:=gd.out;omega
      have s7:=Zb hc;clear done hp hc;obtain⟨vA,vc,rfl⟩:=s.form;go_wp2_with fail;refine Zt (fun w'=>Below wr.heap.size wr w') (fun w'=>Blk w' w2.heap.size 90 #[.int .i64 V1,.int .i64 V2,.int .i64 4,.int .i64 0,.int .i64 0,.slice none 0 0,.int .i64 0,.int .i64 0,.slice none 0 0,.slice none 0 0,.int .i64 0,.int .i64 0,.slice none 0 0,.int .i64 T.author,.int .i64 T.round,.slice bA T.batches.length bc,.slice pA T.parents.length pc,.slice vA acc.length vc,.int .i64 0]) [7,8,9] (.q 0 (.q 1 (.q 2 (.q 3 (.l 4 (.l 5 (.l 6 (.qc 7 (.qc 8 (.l 9 .nil)))))))))) ?_ ?_
      ·exact⟨Zad _,gq.kept (Zad _)⟩
      intro W' Z hS;have ab:=gu.kept Z;have sz:=s.kept Z;have c6:=Z.size;clear hB g1c
      repeat((first|refine pq (h:=⟨_,fun w' hS=>by(have bm:=hS.cell 17;simp at bm;go_simp;exact rfl),?_⟩)|refine Zq ?_);simp only[sx])
      refine Zd fun K hK=>?_
      try simp only[sy]
      go_simp;refine(number_any W1 g 1 1 (l,false) _ rfl (by decide) ab).mono ?_;rintro e w11 ⟨rfl,P,s9⟩;rw[an.out];rw[hY.out]at s9;have hh:=(gq.kept Z).grown P (by simp;omega);have gz:=sz.grown P bb.out;have c3:=P.size;refine hK.out _ _ (hh) fun hS=>?_
      clear hK K
      try simp only[sx]
      refine Zd fun K hK=>?_
      try simp only[sy]
      go_simp;have he:=Zac w11 (.cells #[.int .i64 N1] 3);have aj:(w11.alloc (.cells #[.int .i64 N1] 3)).cell? ⟨w11.heap.size,0,none⟩=some (encI N1):=(Blk.new w11 3 #[.int .i64 N1]).cell 0;have s8:=hh.kept he;have hm:=gz.kept he;have ao:=s9.kept he;have gg:wr.grownBy (w11.alloc (.cells #[.int .i64 N1] 3)) (some g):=Zae (Zae (Zal _ Z) P) (Zal _ he);have c0:=gg.size;refine hK.out _ _ (s8) fun hS=>?_
      clear hK K
      try simp only[sx]
      refine Zd fun K hK=>?_
      try simp only[sy]
      have av:=hm.own.lt;refine Zcp (n:=140737488355328) (ys:=[(N1:Int)]) Zx5 Zis _ _ rfl rfl hm (by simp;omega) rfl (RVec.one (N1:Int) aj (by decide)) (by decide) (by have:=s7.out;simp;omega) (by have:=s7.out;simp;omega) (fun v13 w13 sb g6 aa=>?_);clear aa;have g4:∀q,(Value.slice vA acc.length vc).ownBlock=some q→w10.heap.size≤q:=fun q j=>(av q j).1
      have s6:=s8.grown g6 (fun e=>by have:=g4 _ e.symm;omega);have b3:=ao.step g6 (fun q j=>by have:=g4 q j;omega);obtain⟨v13A,v13c,rfl⟩:=sb.form;refine hK.out _ _ (s6) fun hS=>?_
      clear hK K
      try simp only[sx]
      repeat(refine Zq ?_;simp only[sx])
      refine Zc fun K hK=>?_
      try simp only[sy]
      refine Zau (n:=1) rfl rfl rfl (by kernel_rfl) rfl s6 (by simp) rfl ?_;intro w14 g7 gl;have g7:Blk w14 w2.heap.size 90 #[.int .i64 V1,.int .i64 V2,.int .i64 4,.int .i64 0,.int .i64 0,.slice none 0 0,.int .i64 0,.int .i64 0,.slice none 0 0,.slice none 0 0,.int .i64 0,.int .i64 0,.slice none 0 0,.int .i64 T.author,.int .i64 T.round,.slice bA T.batches.length bc,.slice pA T.parents.length pc,.slice v13A (acc++[(N1:Int)]).length v13c,.int .i64 0]:=g7;have ai:=b3.step gl H;have ak:=sb.grown gl (by omega);have a2:Chg [g,w2.heap.size] w10 w14:=((G.new gg (fun q j=>.inl (by injection j with j;subst j;simp))).new g6 (fun q j=>.inr (g4 q j))).new gl (fun q j=>.inl (by injection j with j;subst j;simp));have ci:IntKind.i64.wrap (z-1)=z-1:=by rw[IntKind.wrap_i64];omega
      refine hK.out _ _ ?_;clear hK K
      try simp only[sx]
      refine Zai ?_;go_wp2;go_roundw
      case rel=>exact⟨k+1,z-1,(acc++[(N1:Int)],Y),_,rfl,by show _=_;have:=hz.out;omega,by show _≤_;have:=hz.out;omega,by omega,by omega,hn,by show _≤_;have:=s0.out;simp at this ⊢;omega,g7,ak,ai,a2⟩
      case measure=>simp[intOf];omega
     ·have sp:=done (by rw[Zoy gd.out (by rw[hp.out];rfl),hp.out]);have hc:acc.length≤255:=by have h1:acc.length≤k:=s0.out;have h2:k≤N:=gd.out;omega
      have su:=s.from_ (bs:=8) (b0:=w7.heap.size) (by omega) sc;obtain⟨oA,oc,rfl⟩:=s.form
      have ha:=Zi7 (B:=w7.heap.size) G (fun q j=>by simp at j;rcases j with rfl|rfl<;>omega)
      clear done hp s;go_wp2;go_meet;rw[o.out.1,o.out.2,sp.out];refine⟨nilC,nilC,nilC,nilC,.slice bA T.batches.length bc,.slice pA T.parents.length pc,.slice oA acc.length oc,gq,?_,gu,hb.trans G⟩;have hn:=RMsg.nils (View.from wr.cell? w7.heap.size);exact⟨hn.txs,hn.bats,hn.pars,hn.dig,sa.mono Ze ha,si.mono Ze ha,su⟩
    ·have sp:=done (by rw[show N=k by have:=hz.out;have:=gd.out;omega,hp.out]);have hc:acc.length≤255:=by have h1:acc.length≤k:=s0.out;have h2:k≤N:=gd.out;omega
     have su:=s.from_ (bs:=8) (b0:=w7.heap.size) (by omega) sc;obtain⟨oA,oc,rfl⟩:=s.form
     have ha:=Zi7 (B:=w7.heap.size) G (fun q j=>by simp at j;rcases j with rfl|rfl<;>omega)
     clear done hp s;go_wp2;go_meet;rw[o.out.1,o.out.2,sp.out];refine⟨nilC,nilC,nilC,nilC,.slice bA T.batches.length bc,.slice pA T.parents.length pc,.slice oA acc.length oc,gq,?_,gu,hb.trans G⟩;have hn:=RMsg.nils (View.from wr.cell? w7.heap.size);exact⟨hn.txs,hn.bats,hn.pars,hn.dig,sa.mono Ze ha,si.mono Ze ha,su⟩
  ·obtain⟨Y1,gj⟩:∃Y,Hid (nmV 3 S2=Y):=⟨_,rfl⟩;obtain⟨Z1,g5⟩:∃Y,Hid (tkS 3 S2=Y):=⟨_,rfl⟩
   have o:Hid (MR=⟨V1,V2,5,bat0,hdr0,slt0,crt0,Y1⟩∧SR=Z1):=by
    have h:=D.out;simp[bodR,gj.out,g5.out]at h;exact⟨h.1.symm,h.2.symm⟩
   clear D hx hw;go_wp2_with fail;refine(number_any W1 g 3 3 S2 w7 rfl (by decide) I).mono ?_;rintro e w8 ⟨rfl,a,r⟩;rw[gj.out];rw[g5.out]at r;have y:=m.grown a (by simp;omega);clear I m x2;go_wp2_with (refine Zaj (n:=1) rfl rfl rfl rfl (by kernel_rfl) rfl y (by simp) rfl ?_);intro w9 x f;go_wp2;go_meet;rw[o.out.1,o.out.2];refine⟨nilC,nilC,nilC,nilC,nilC,nilC,nilC,x,?_,r.step f H,(h8.new a O).new f h5⟩;have hn:=RMsg.nils (View.from w9.cell? w7.heap.size);exact⟨hn.txs,hn.bats,hn.pars,hn.dig,hn.cbats,hn.cpars,hn.vots⟩
 case rest =>
  obtain⟨vt,vb,vp,vd,cb,cp,cv,gv,gy,am,G⟩:=hcut;obtain⟨sl,sh⟩:=SR;have gr:=gx.chg G (by simp;omega);have h3:Below w.heap.size w wc:=⟨G.os.trans t.os,G.tape.trans t.tape,G.output.trans t.output,Zg t.size G.size,fun i hi=>(G.block i (Nat.lt_of_lt_of_le hi t.size) (by simp;omega)).trans (t.block i hi)⟩;have bt:=h3.size;have bl:=t.size;obtain⟨vr,g3,s3⟩:=am.blk;obtain⟨rA,rc,rfl,hf⟩:=id s3;have g3:Blk wc g 178 #[.slice rA sl.length rc,.bool sh]:=g3;have g0:=g3.cell 0;have g1:=g3.cell 1;simp at g0 g1;clear hf s3 hx hw m gx I x2 D;have c1:¬(b.length:Int)=0:=by omega
  cases sh
  rotate_left
  ·have aq:Hid (E=5):=HE.out.trans (if_pos rfl);have bk:Hid (M=msg0):=by show _=_;rw[HM.out,aq.out];rfl
   go_wp2_with (refine Zj 19 gr ?_);intro w8 Q a
   go_wp2;refine bodyPost_ret (Zag rfl rfl (by kernel_rfl) (by kernel_rfl) Q rfl) rfl ?_;rw[bk.out,aq.out];exact⟨nilC,nilC,nilC,nilC,nilC,nilC,nilC,rfl,Zab h3 h3.size a (by intro k e;injection e;omega),RMsg.nils _⟩
  by_cases gn:0<sl.length
  ·have b4:Hid (E=4):=by
    show _=_;rw[HE.out];exact(if_neg (by simp)).trans (if_pos gn)
   have bp:Hid (M=msg0):=by show _=_;rw[HM.out,b4.out];rfl
   have ha:(0:Int)<sl.length:=by omega
   go_wp2_with (refine Zj 19 gr ?_);intro w8 Q a
   go_wp2;refine bodyPost_ret (Zag rfl rfl (by kernel_rfl) (by kernel_rfl) Q rfl) rfl ?_;rw[bp.out,b4.out];exact⟨nilC,nilC,nilC,nilC,nilC,nilC,nilC,rfl,Zab h3 h3.size a (by intro k e;injection e;omega),RMsg.nils _⟩
  have az:Hid (E=msgF MR):=by
   show _=_;rw[HE.out];exact(if_neg (by simp)).trans (if_neg gn)
  have ha:¬(0:Int)<sl.length:=by omega
  obtain⟨F,hF⟩:∃F,Hid (msgF MR=F):=⟨_,rfl⟩;have bj:E=F:=az.out.trans hF.out;subst bj;clear HE az g3 am;unfold msgC at gv;obtain⟨⟨tA,tc,rfl⟩,⟨bA,bc,rfl⟩,⟨pA,pc,rfl⟩,⟨dA,dc,rfl⟩,⟨cA,cc,rfl⟩,⟨qA,qc,rfl⟩,⟨vA,vc,rfl⟩⟩:=gy.forms;go_wp2_with (refine wpList_load_row rfl 90 _ rfl _ rfl _ _ _ _ gv underlying90 rfl (by kernel_rfl) ?_);refine(Zd7 MR _ _ _ _ _ _ _ _ (gy.mono (View.from_le _ _)) hl.out).mono ?_;rintro e w8 ⟨rfl,J⟩;rw[hF.out];have y:=gv.kept J;have ad:=gr.kept J;have ho:=h3.trans (J.mono bt);have ga:=gy.mono (Za0 _ (Zaa J));clear gv gr gy g0 g1 hF
  by_cases h0:E=0
  ·subst h0;have ss:Hid (M=MR):=HM.out.trans (if_pos rfl);go_wp2_with (first|(refine wpList_load_row rfl 90 _ rfl _ rfl _ _ _ _ y underlying90 rfl (by kernel_rfl) ?_)|(refine Zj 19 ad ?_));intro w9 sw f;go_wp2;refine bodyPost_ret (Zag rfl rfl (by kernel_rfl) (by kernel_rfl) sw rfl) rfl ?_;rw[ss.out];exact⟨_,_,_,_,_,_,_,rfl,Zab ho ho.size f (by intro k e;injection e;omega),(ga.mono (Zbk f (by omega))).mono (Zd6 bl)⟩
  ·have ss:Hid (M=msg0):=HM.out.trans (if_neg h0);go_wp2_with (refine Zj 19 ad ?_);intro w9 sw f;go_wp2;refine bodyPost_ret (Zag rfl rfl (by kernel_rfl) (by kernel_rfl) sw rfl) rfl ?_;rw[ss.out];exact⟨nilC,nilC,nilC,nilC,nilC,nilC,nilC,rfl,Zab ho ho.size f (by intro k e;injection e;omega),RMsg.nils _⟩
def recN(d:List UInt8)(a:Nat):Nat:=match d[a]?,d[a+1]? with|some x,some y=>x.toNat*256+y.toNat|_,_=>0
def recB(d:List UInt8)(a:Nat):List UInt8:=(d.drop (a+2)).take (recN d a)
def Zf0(d:List UInt8)(a:Nat):Bool:=decide (a+2≤d.length)&&decide (a+2+recN d a≤d.length)&&decide (decE (recB d a)=0)&&decide (recF (decM (recB d a))=0)
def rcvR(d:List UInt8):Nat→List Msg→Nat→List Msg×Nat
 |0,ms,a=>(ms,a)
 |n+1,ms,a=>if Zf0 d a then rcvR d n (ms++[decM (recB d a)]) (a+2+recN d a)else(ms,a)
def rcvP(d:List UInt8):List Msg×Nat:=rcvR d (d.length+1) [] 0
theorem Zzv{d:List UInt8}{a:Nat}(h:d.length<k+a)(c:a≤d.length)(b:Zf0 d a=true):∃k',rcvR d k ms a=rcvR d k' (ms++[decM (recB d a)]) (a+2+recN d a)∧d.length<k'+(a+2+recN d a):=by
 cases k with
 |zero=>omega
 |succ k=>exact⟨k,by rw[rcvR,if_pos b],by omega⟩
theorem rcv_stop{d:List UInt8}{a:Nat}(b:Zf0 d a=false):rcvR d k ms a=(ms,a):=by
 cases k with
 |zero=>rfl
 |succ k=>rw[rcvR,if_neg (by rw[b];decide)]
theorem recN_at{d:List UInt8}{a:Nat}(h:a+1<d.length):recN d a=d[a].toNat*256+d[a+1].toNat:=by
 unfold recN;rw[Zp (by omega),Zp h]
def rcvE(d:List UInt8)(a:Int):Int:=if Zbc d a then 0 else 12
def rcvM(d:List UInt8)(a:Int):List Msg:=if Zbc d a then(rcvP d).1 else []
def rcvD(d:List UInt8)(a:Int):List UInt8:=if Zbc d a then d.take (rcvP d).2 else []
def rcvY(d:List UInt8)(a:Int):Int:=if Zbc d a then(if a≤(rcvP d).2 then a else(rcvP d).2)else 0
theorem decM_small(b:List UInt8):∀t∈(decM b).bat.txs,t.size≤140737488355328:=by
 unfold decM;split
 ·exact Zjv _ _ _ _
 ·intro t ht;cases ht
def RMsgR(h:View)(cs:List Value)(m:Msg):Prop:=∃vt vb vp vd cb cp cv,cs=(msgC m vt vb vp vd cb cp cv).toList∧RMsg h m vt vb vp vd cb cp cv
theorem RMsgR.mono:Mono RMsgR:=fun _ _ _ _ ⟨vt,vb,vp,vd,cb,cp,cv,e,r⟩ a=>⟨vt,vb,vp,vd,cb,cp,cv,e,r.mono a⟩
abbrev RMsgs:=RSl 19 RMsgR 264
abbrev OwnMsgs(b:Nat):=OwnSl 19 (RFrom b RMsgR) 90
theorem Zjs:Elem prog 111 90 19 264:=Zo4 (z:=.agg #[.int .i64 0,.int .i64 0,.int .i64 0,.int .i64 0,.int .i64 0,.slice none 0 0,.int .i64 0,.int .i64 0,.slice none 0 0,.slice none 0 0,.int .i64 0,.int .i64 0,.slice none 0 0,.int .i64 0,.int .i64 0,.slice none 0 0,.slice none 0 0,.slice none 0 0,.int .i64 0]) underlying111 (by kernel_rfl) rfl (by decide)
theorem RMsgs.nil(h:View):RMsgs h (.slice none 0 0) []:=⟨none,0,rfl,Za _,Zf _,by simp,fun _=>rfl,fun h=>by simp at h⟩
theorem Zlk{fn:Func}{p q u:Tmp}{n:Nat}{tmps:Array Value}(h:fn.results=#[.tmp q,.cell p t,.tmp u])(hp:tmps.getD p undef=.pointer (some ⟨g,0,none⟩))(a:(isAgg t).run P w=.ok true w)(hi:(P.info? t).map (·.size)=some n)(c:Blk w g te cur)(hn:cur.size=n) :
 (results fn tmps).run P w=.ok (.tuple #[tmps.getD q undef,.agg cur,tmps.getD u undef]) w:=by
 have:=Zde (P:=P) a hi c (o:=0) (by omega);rw[List.drop_zero,List.take_of_length_le (by simp[hn])]at this;have b:tmps[p]?.getD undef=.pointer (some ⟨g,0,none⟩):=by simpa using hp
 simp only[results,h];simp[Sem.run_bind,Result.andThen,b,asAddr,this]
theorem bodyOf{d:List UInt8}{a:Nat}(b:Zan h (.slice A d.length c) d)(i:a+2+recN d a≤d.length):Zan h (.slice (if c=a+2 then A else A.map fun x=>x.add (a+2)) (recN d a) (c-(a+2))) (recB d a):=by
 obtain⟨A',c',e,g,_⟩:=id b;injection e with e1 e2 e3;subst e3;have f:(recB d a).length=recN d a:=by unfold recB;simp;omega
 split
 ·exact RVec.stubN _ _ _ _ (by omega) (by omega) f
 ·exact(b.dropN (by omega)).takeN (by simp;omega)
theorem Zp8(a:Int)(v:Value)(d:List UInt8)(w:World)(hv:Zan w.cell? v d) :
 Calls prog 163 #[.agg #[v,.int .i64 a]] w fun e w'=>∃vm vd,e=.returned (.tuple #[vm,.agg #[vd,.int .i64 (rcvY d a)],.int .i64 (rcvE d a)])∧Below w.heap.size w w'∧RMsgs (View.from w'.cell? w.heap.size) vm (rcvM d a)∧Zan (View.from w'.cell? w.heap.size) vd (rcvD d a):=by
 have hl:d.length*1≤140737488355328:=hv.len;obtain⟨A0,c0,rfl,hf⟩:=id hv;clear hf;cases hm:Zbc d a
 ·have hY:rcvY d a=0:=by unfold rcvY;rw[hm];rfl
  have hE:rcvE d a=12:=by unfold rcvE;rw[hm];rfl
  have hM:rcvM d a=[]:=by unfold rcvM;rw[hm];rfl
  have hD:rcvD d a=[]:=by unfold rcvD;rw[hm];rfl
  rw[hY,hE,hM,hD];have Hm:=Zb hm;clear hY hE hM hD hm;go_enter func163,ntmps163;go_upto_region 1 with fail;refine Za8 _ _ _ _ _ (fun W=>Code.wp _ _ _ _ W) (fun W J X hw T=>?_);have g0:=J.cell 0;have g1:=J.cell 1;simp at g0 g1;have g3:=T.size;go_wp2_with fail;refine(Zw9 a A0 c0 d W (by omega) Hm.out).mono ?_;rintro e w1 ⟨rfl,U⟩;have hp:=X.kept U;have y:=T.trans (U.mono g3);clear g0 g1 J X;go_upto_region 2 with fail;refine Zo fun W2 hX s0 O=>?_
  have hh:=hp.kept O;have B:=y.trans (O.mono y.size);go_wp2_with (refine Zj 2 hh ?_);intro w3 s5 sm;go_wp2;refine bodyPost_ret (Zlk rfl rfl (by kernel_rfl) (by kernel_rfl) s5 rfl) rfl ?_;exact⟨.slice none 0 0,.slice none 0 0,rfl,Zab B B.size sm (by intro k e;injection e;omega),RMsgs.nil _,RVec.nil _ _ _⟩
 have Hm:=Zb hm;have gd:d.length≤400000∧0≤a∧a≤d.length:=by simp[Zbc]at hm;omega
 obtain⟨gd,a1,a0⟩:=gd;obtain⟨R,hR⟩:∃R,Hid (rcvP d=R):=⟨_,rfl⟩;obtain⟨Y,hY⟩:∃Y,Hid (rcvY d a=Y):=⟨_,rfl⟩;have HY:Hid (Y=if a≤(R.2:Int)then a else(R.2:Int)):=by show _=_;rw[←hY.out];unfold rcvY;rw[hm,hR.out];rfl
 have hE:rcvE d a=0:=by unfold rcvE;rw[hm];rfl
 have hM:rcvM d a=R.1:=by unfold rcvM;rw[hm,hR.out];rfl
 have hD:rcvD d a=d.take R.2:=by unfold rcvD;rw[hm,hR.out];rfl
 rw[hY.out,hE,hM,hD];have HR:Hid (rcvR d (d.length+1) [] 0=R):=hR.out;clear hE hM hD hm hY hR;go_enter func163,ntmps163;go_upto_region 1 with fail;refine Za8 _ _ _ _ _ (fun W=>Code.wp _ _ _ _ W) (fun W J X hw T=>?_);have g0:=J.cell 0;have g1:=J.cell 1;simp at g0 g1;have g3:=T.size;have sp:w.heap.size+2≤W.heap.size:=by omega
 clear hw;go_wp2_with fail;refine(Zin a _ d W (hv.mono (Zaa T)) Hm.out).mono ?_;rintro e w1 ⟨dv,rfl,U,o1⟩;have r1:=o1.reads (bs:=1) hl;have rF:=o1.from_ (bs:=1) (b0:=w.heap.size+2) hl (by omega);obtain⟨A,c,rfl⟩:=o1.form;have hp:=X.kept U;have y:=T.trans (U.mono g3);have a7:=U.size;clear g0 g1 J X o1;go_upto_region 2 with fail;refine Zo fun W2 hX s0 O=>?_
 have hh:=hp.kept O;have B:=y.trans (O.mono y.size);have r2:=r1.mono (Zaa O);have ai:w1.heap.size+1≤W2.heap.size:=by omega
 clear s0 hp r1
 obtain⟨_,sw,_,_,_,gm⟩:d.length=d.length∧d.length≤c∧True∧True∧True∧(∀i (hi:i<d.length),∃b o,A=some ⟨b,o,none⟩∧W2.cell? ⟨b,o+i,none⟩=some (.int .u8 d[i].toNat)):=by
  obtain⟨A',c',e,h1,_,_,_,h5⟩:=id r2;injection e with e1 e2 e3;subst e1 e3;refine⟨rfl,h1,trivial,trivial,trivial,fun i hi=>?_⟩;obtain⟨b,o,ea,hc⟩:=h5 (by omega);exact⟨b,o,ea,hc i hi⟩
 have gu:=Zb gm;clear gm
 go_upto_block 0 with fail
 go_cut [7,8,9,10,11] (fun v i _ _ _ w'=>∃(at_:Nat) (ms:List Msg),i=.int .i64 at_∧Hid (R=(ms,at_))∧at_≤d.length∧RMsgs (View.from w'.cell? W2.heap.size) v ms∧Below W2.heap.size W2 w')
 case first =>
  go_wp2_with fail
  go_loopw [7,8,9,10,11] (fun v i _ _ _ wr=>∃(k at_:Nat) (ms:List Msg),i=.int .i64 at_∧at_≤d.length∧Hid (rcvR d k ms at_=R∧d.length<k+at_)∧ms.length≤at_∧OwnMsgs W2.heap.size wr W2.heap.size v ms∧Below W2.heap.size W2 wr) (fun _ i _ _ _ _=>d.length-(intOf i).toNat)
  case atStart=>exact⟨d.length+1,0,[],rfl,Zf _,⟨HR.out,by omega⟩,Zf _,OwnSl.nil _ _ _ _ _,Zm _ _⟩
  case round =>
   obtain⟨k,at_,ms,rfl,L,m,sz,Z,C⟩:=hrel;have h9:=hX.kept C;have x0:=h9.cell 0;have x1:=h9.cell 1;simp at x0 x1;have sg:=C.size
   by_cases h2:at_+2≤d.length
   ·have ad:(at_:Int)+2≤d.length:=by omega
    obtain⟨b0,o0,rfl,e0⟩:=gu.out at_ (by omega);obtain⟨b1,o1,eA,e1⟩:=gu.out (at_+1) (by omega);injection eA with eA;injection eA with eb eo _;subst eb eo;have c0':=Zaa C _ _ e0;have c1':=Zaa C _ _ e1;have hN:=Zb (recN_at (d:=d) (a:=at_) (by omega));have s7:=d[at_].toNat_lt;have gr:=d[at_+1].toNat_lt;have gw:=or_256 (v:=d[at_].toNat) (x:=d[at_+1].toNat) (by omega) gr;generalize d[at_].toNat=B0 at *;generalize d[at_+1].toNat=B1 at *;clear e0 e1;go_wp2_with fail;refine Zr [15] (.q 0 (.q 1 (.q 2 (.q 3 (.q 4 (.q 5 (.q 6 (.q 7 (.q 8 (.q 9 (.q 10 (.q 11 (.q 12 (.q 13 (.q 14 (.qc 15 .nil)))))))))))))))) fun W3 z=>?_
    have s6:(at_:Int)<d.length:=by omega
    have sh:(at_:Int)+1<d.length:=by omega
    have sa:IntKind.i64.wrap ((at_:Int)+1)=((at_+1:Nat):Int):=by rw[IntKind.wrap_i64];omega
    repeat((first|refine pq (h:=⟨_,fun w' z=>by(have hq:=h9.kept z;have h0:=hq.cell 0;have h1:=hq.cell 1;simp at h0 h1;have af:=Zaa z _ _ c0';have si:=Zaa z _ _ c1';go_simp;exact rfl),?_⟩)|refine Zq ?_);simp only[sx])
    have hr:IntKind.i64.wrap (B0:Int)=B0:=by rw[IntKind.wrap_i64];omega
    have hs:IntKind.i64.wrap (B1:Int)=B1:=by rw[IntKind.wrap_i64];omega
    have hy:IntKind.i64.wrap ((B0:Int)*256)=(B0:Int)*256:=by rw[IntKind.wrap_i64];omega
    simp only[hr,hs,hy,gw];obtain⟨N,D⟩:∃N,Hid (recN d at_=N):=⟨_,rfl⟩;rw[show B0*256+B1=N by rw[←D.out];exact hN.out.symm];have sr:N<65536:=by rw[←D.out,hN.out];omega
    refine Zai ?_;have P:=C.trans (z.mono sg);have Q:=h9.kept z;have t:=Z.kept (RFrom.mono RMsgR.mono) z;have r3:=r2.mono (Zaa P);have ab:=z.size;clear hN hr hs hy gw c0' c1' x0 x1 h9 Z C z s6 sh sa s7 gr;have x0:=Q.cell 0;have x1:=Q.cell 1;simp at x0 x1
    by_cases h7:at_+2+N≤d.length
    ·obtain⟨a2,S⟩:∃a2,Hid (at_+2=a2):=⟨_,rfl⟩;obtain⟨a3,h8⟩:∃a3,Hid (a2+N=a3):=⟨_,rfl⟩;have s9:=S.out;have sb:=h8.out;have a4:(at_:Int)+2=a2:=by omega
     have ag:(a2:Int)+N=a3:=by omega
     have a9:¬(d.length:Int)<a3:=by omega
     have ah:a2≤a3∧a3≤c∧a3-a2=N:=by omega
     have si:(a2:Int)≤(a3:Int):=by omega
     have a5:(a3:Int)≤(c:Int):=by omega
     obtain⟨BB,g2⟩:∃BB,Hid (recB d at_=BB):=⟨_,rfl⟩;have f:=bodyOf r3 (a:=at_) (by rw[D.out];exact h7);rw[D.out,g2.out,S.out]at f;clear s9 sb;obtain⟨M,hM⟩:∃M,Hid (decM BB=M):=⟨_,rfl⟩;obtain⟨E,hE⟩:∃E,Hid (decE BB=E):=⟨_,rfl⟩;obtain⟨F,hF⟩:∃F,Hid (recF M=F):=⟨_,rfl⟩
     have r:Hid (Zf0 d at_=(decide (E=0)&&decide (F=0))):=by
      show _=_;unfold Zf0;rw[g2.out,hM.out,hE.out,hF.out,D.out,decide_eq_true h2,decide_eq_true h7];rfl
     have g6:=Zb (decM_small BB);rw[hM.out]at g6;go_upto_region 9 with fail
     go_cut [10,11] (fun p e w'=>∃gb vt vb vp vd cb cp cv,p=.pointer (some ⟨gb,0,none⟩)∧e=.int .i64 E∧Blk w' gb 90 (msgC M vt vb vp vd cb cp cv)∧RMsg (View.from w'.cell? W3.heap.size) M vt vb vp vd cb cp cv∧Below W3.heap.size W3 w')
     case first =>
      have Hb:=Zb f;clear f t g6 hF r HR HY
      by_cases g9:c=a2
      ·have f:=Hb.out;rw[if_pos g9]at f;clear Hb;subst g9;rw[Nat.sub_self]at f;go_wp2_with fail;refine(Zju _ BB W3 f).mono ?_;rintro e w4 ⟨vt,vb,vp,vd,cb,cp,cv,rfl,h4,rm⟩;rw[hM.out]at rm⊢;rw[hE.out];obtain⟨⟨tA,tc,rfl⟩,⟨bA,bc,rfl⟩,⟨pA,pc,rfl⟩,⟨dA,dc,rfl⟩,⟨cA,cc,rfl⟩,⟨qA,qc,rfl⟩,⟨vA,vc,rfl⟩⟩:=rm.forms;unfold msgC;have hn:=Blk.new w4 90 #[.int .i64 0,.int .i64 0,.int .i64 0,.int .i64 0,.int .i64 0,.slice none 0 0,.int .i64 0,.int .i64 0,.slice none 0 0,.slice none 0 0,.int .i64 0,.int .i64 0,.slice none 0 0,.int .i64 0,.int .i64 0,.slice none 0 0,.slice none 0 0,.slice none 0 0,.int .i64 0];have he:=Zac w4 (.cells #[.int .i64 0,.int .i64 0,.int .i64 0,.int .i64 0,.int .i64 0,.slice none 0 0,.int .i64 0,.int .i64 0,.slice none 0 0,.slice none 0 0,.int .i64 0,.int .i64 0,.slice none 0 0,.int .i64 0,.int .i64 0,.slice none 0 0,.slice none 0 0,.slice none 0 0,.int .i64 0] 90);go_wp2_with (refine Zj 19 hn ?_);intro w5 ga hz;have u:=Zab he he.size hz (by intro k e;injection e;omega);go_wp2;go_meet;exact⟨_,_,_,_,_,_,_,_,rfl,rfl,ga,rm.mono (Za0 _ (Zaa u)),h4.trans (u.mono h4.size)⟩
      ·have f:=Hb.out;rw[if_neg g9]at f;clear Hb;replace f:Zan W3.cell? (.slice (some ⟨b0,o0+a2,none⟩) N (c-a2)) BB:=by simpa[Zbs]using f
       go_wp2_with fail;refine(Zju _ BB W3 f).mono ?_
       rintro e w4 ⟨vt,vb,vp,vd,cb,cp,cv,rfl,h4,rm⟩;rw[hM.out]at rm⊢;rw[hE.out];obtain⟨⟨tA,tc,rfl⟩,⟨bA,bc,rfl⟩,⟨pA,pc,rfl⟩,⟨dA,dc,rfl⟩,⟨cA,cc,rfl⟩,⟨qA,qc,rfl⟩,⟨vA,vc,rfl⟩⟩:=rm.forms;unfold msgC;have hn:=Blk.new w4 90 #[.int .i64 0,.int .i64 0,.int .i64 0,.int .i64 0,.int .i64 0,.slice none 0 0,.int .i64 0,.int .i64 0,.slice none 0 0,.slice none 0 0,.int .i64 0,.int .i64 0,.slice none 0 0,.int .i64 0,.int .i64 0,.slice none 0 0,.slice none 0 0,.slice none 0 0,.int .i64 0];have he:=Zac w4 (.cells #[.int .i64 0,.int .i64 0,.int .i64 0,.int .i64 0,.int .i64 0,.slice none 0 0,.int .i64 0,.int .i64 0,.slice none 0 0,.slice none 0 0,.int .i64 0,.int .i64 0,.slice none 0 0,.int .i64 0,.int .i64 0,.slice none 0 0,.slice none 0 0,.slice none 0 0,.int .i64 0] 90);go_wp2_with (refine Zj 19 hn ?_);intro w5 ga hz;have u:=Zab he he.size hz (by intro k e;injection e;omega);go_wp2;go_meet;exact⟨_,_,_,_,_,_,_,_,rfl,rfl,ga,rm.mono (Za0 _ (Zaa u)),h4.trans (u.mono h4.size)⟩
     case rest =>
      obtain⟨gb,vt,vb,vp,vd,cb,cp,cv,rfl,rfl,g4,rm,hg⟩:=hcut;obtain⟨⟨tA,tc,rfl⟩,⟨bA,bc,rfl⟩,⟨pA,pc,rfl⟩,⟨dA,dc,rfl⟩,⟨cA,cc,rfl⟩,⟨qA,qc,rfl⟩,⟨vA,vc,rfl⟩⟩:=rm.forms;have hj:=Q.kept hg;have I:=t.kept (RFrom.mono RMsgR.mono) hg;have g:=P.trans (hg.mono P.size);have sn:=hg.size;clear Q x0 x1 f
      by_cases gv:E=0
      ·subst gv;go_wp2_with (refine Zi3 rfl 90 _ rfl _ rfl _ _ _ _ g4 underlying90 rfl (by kernel_rfl) ?_);refine(Zie M _ _ _ _ _ _ _ _ (rm.mono (View.from_le _ _)) g6.out).mono ?_;rintro e w6 ⟨rfl,hb⟩;rw[hF.out];have H:=I.kept (RFrom.mono RMsgR.mono) hb;have ht:=g.trans (hb.mono g.size);have V:=g4.kept hb;have rm6:=rm.mono (Za0 _ (Zaa hb));have ae:=hb.size;have gq:=t.lt;clear I hj g4 rm
       by_cases gj:F=0
       ·subst gj;have gx:Zf0 d at_=true:=by rw[r.out];rfl
        obtain⟨k',h3,ha⟩:=Zzv (ms:=ms) m.out.2 L gx
        have g8:Hid (rcvR d k' (ms++[M]) a3=R∧d.length<k'+a3):=by
         have e3:at_+2+recN d at_=a3:=by rw[D.out];have:=S.out;have:=h8.out;omega
         rw[g2.out,hM.out,e3]at h3;rw[e3]at ha;exact⟨h3.symm.trans m.out.1,ha⟩
        clear h3 ha m r gx;unfold msgC at V;have hR:RFrom W2.heap.size RMsgR (View.but w6.cell? u7.ownBlock) [.int .i64 M.src,.int .i64 M.dst,.int .i64 M.kind,.int .i64 M.bat.author,.int .i64 M.bat.number,.slice tA M.bat.txs.length tc,.int .i64 M.hdr.author,.int .i64 M.hdr.round,.slice bA M.hdr.batches.length bc,.slice pA M.hdr.parents.length pc,.int .i64 M.slt.author,.int .i64 M.slt.round,.slice dA M.slt.digest.length dc,.int .i64 M.crt.hdr.author,.int .i64 M.crt.hdr.round,.slice cA M.crt.hdr.batches.length cc,.slice qA M.crt.hdr.parents.length qc,.slice vA M.crt.voters.length vc,.int .i64 M.round] M:=⟨_,_,_,_,_,_,_,rfl,rm6.mono (Zqv (by omega) (fun q hq=>(gq q hq).2))⟩;have aj:IntKind.i64.wrap ((at_:Int)+((2:Int)+N))=a3:=by rw[IntKind.wrap_i64];omega
        have sv:IntKind.i64.wrap ((2:Int)+N)=2+N:=by rw[IntKind.wrap_i64];omega
        have gz:Hid (ms.length≤400000):=by show _≤_;omega
        have gf:Hid ((ms++[M]).length≤a3):=by show _≤_;have:=S.out;have:=h8.out;simp;omega
        have gh:Hid (W2.heap.size≤w6.heap.size):=by show _≤_;omega
        go_wp2_with (first|(refine wpList_load_row rfl 90 _ rfl _ rfl _ _ _ _ V underlying90 rfl (by kernel_rfl) ?_)|(at_builtin;go_loud (refine Zaz (n:=140737488355328) (RFrom.mono RMsgR.mono) M [.int .i64 M.src,.int .i64 M.dst,.int .i64 M.kind,.int .i64 M.bat.author,.int .i64 M.bat.number,.slice tA M.bat.txs.length tc,.int .i64 M.hdr.author,.int .i64 M.hdr.round,.slice bA M.hdr.batches.length bc,.slice pA M.hdr.parents.length pc,.int .i64 M.slt.author,.int .i64 M.slt.round,.slice dA M.slt.digest.length dc,.int .i64 M.crt.hdr.author,.int .i64 M.crt.hdr.round,.slice cA M.crt.hdr.batches.length cc,.slice qA M.crt.hdr.parents.length qc,.slice vA M.crt.voters.length vc,.int .i64 M.round] Zjs _ _ rfl rfl rfl H ht gh.out rfl rfl rfl rfl hR (Za _) (by have:=gz.out;omega) (by have:=gz.out;omega) ?_)));intro v' w7 ho gp _
        clear H hR V rm6;go_wp2;go_roundw
        case rel=>exact⟨k',a3,ms++[M],rfl,by have:=S.out;have:=h8.out;omega,g8,gf.out,ho,gp⟩
        case measure=>have:=S.out;have:=h8.out;simp[intOf];omega
       ·have G:Hid (Zf0 d at_=false):=by show _=_;rw[r.out,decide_eq_false gj,Bool.and_false]
        have j:Hid (R=(ms,at_)):=m.out.1.symm.trans (rcv_stop G.out);have s:=H.reads_from (bs:=264) RMsgR.mono (by omega);go_wp2;go_meet;exact⟨at_,ms,rfl,j,L,s,ht⟩
      ·have G:Hid (Zf0 d at_=false):=by show _=_;rw[r.out,decide_eq_false gv];rfl
       have j:Hid (R=(ms,at_)):=m.out.1.symm.trans (rcv_stop G.out);have s:=I.reads_from (bs:=264) RMsgR.mono (by omega);go_wp2;go_meet;exact⟨at_,ms,rfl,j,L,s,g⟩
    ·have G:Hid (Zf0 d at_=false):=by show _=_;unfold Zf0;rw[D.out,decide_eq_false h7,Bool.and_false];rfl
     have j:Hid (R=(ms,at_)):=m.out.1.symm.trans (rcv_stop G.out);have s:=t.reads_from (bs:=264) RMsgR.mono (by omega);have sl:(d.length:Int)<(at_:Int)+2+N:=by omega
     go_wp2;go_meet;exact⟨at_,ms,rfl,j,L,s,P⟩
   ·have G:Hid (Zf0 d at_=false):=by show _=_;unfold Zf0;rw[decide_eq_false h2];rfl
    have j:Hid (R=(ms,at_)):=m.out.1.symm.trans (rcv_stop G.out);have s:=Z.reads_from (bs:=264) RMsgR.mono (by omega);have sl:¬(at_:Int)+2≤d.length:=by omega
    go_wp2;go_meet;exact⟨at_,ms,rfl,j,L,s,C⟩
 case rest =>
  obtain⟨at_,ms,rfl,j,L,s,g⟩:=hcut;obtain⟨mA,mc,rfl,hf⟩:=id s;clear hf;have hj:=hX.kept g;have gg:=hh.kept g;have rc:=r2.mono (Zaa g);have sn:=g.size;have gl:=B.size;have sf:at_≤c:=by omega
  have st:(at_:Int)≤(c:Int):=by omega
  have sq:(0:Int)≤(at_:Int):=by omega
  have rd:=((rF.mono (Za0 _ (Zaa O))).mono (Za0 _ (Zaa g))).cutN L (Za at_) sf;have gs:Hid (Y=if a≤(at_:Int)then a else(at_:Int)):=by show _=_;rw[HY.out,j.out]
  clear HY HR Hm;go_wp2_with fail;refine Zr [12,13] (.q 0 (.q 1 (.q 2 (.q 3 (.q 4 (.q 5 (.q 6 (.q 7 (.q 8 (.q 9 (.q 10 (.q 11 (.l 12 (.qc 13 .nil)))))))))))))) fun W3 z=>?_
  repeat((first|refine pq (h:=⟨_,fun w' z=>by(have hq:=hj.kept z;have h0:=hq.cell 0;have h1:=hq.cell 1;simp at h0 h1;go_simp;exact rfl),?_⟩)|refine Zq ?_);simp only[sx])
  refine Zc fun K hK=>?_
  try simp only[sy]
  refine Zh 2 (gg.kept z) ?_;intro w4 sj g7;refine hK.out _ _ ?_;clear hK K
  try simp only[sx]
  repeat(refine Zq ?_;simp only[sx])
  refine Zai ?_;have gy:Below w.heap.size w w4:=Zab ((B.trans (g.mono gl)).trans (z.mono (by omega))) (by have:=z.size;omega) g7 (by intro k e;injection e;omega);have gn:=(s.mono RMsgR.mono (Za0 _ (Zaa z))).mono RMsgR.mono (Zbk g7 (by omega));have rd4:=(rd.mono (Za0 _ (Zaa z))).mono (Zbk g7 (by omega));clear s rd rF r2 rc hX hj hh gg;go_wp2
  all_goals
   refine bodyPost_ret (Zlk rfl rfl (by kernel_rfl) (by kernel_rfl) sj rfl) rfl ?_;refine⟨.slice mA ms.length mc,.slice A at_ at_,?_,gy,?_,?_⟩
   ·first|(rw[show Y=(if (at_:Int)<a then(at_:Int)else a) from gs.out.trans (min_say _ _)];rfl)|(rw[gs.out];rfl)
   ·rw[j.out];exact gn.mono RMsgR.mono (Zbm (by omega))
   ·rw[j.out];exact rd4.mono (Zbm (by omega))
end Go.Proofs.YtbcpbnfojfiekaaGreatDoor
