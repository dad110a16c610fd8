/- A part of what the last text stands on. -/
import Derived.Test.YtbcpbnfojfiekaaGreatDoorK37
namespace Go.Proofs.YtbcpbnfojfiekaaGreatDoor
open Go.ChangeShapes Go.WideShapes Go.ChangeAt Go.RowKit Go.Proofs.Tryz Qa Qb Qc
set_option linter.all false
set_option maxHeartbeats 20000000
set_option maxRecDepth 100000
variable{w W:World}{k i g off b:Nat}{n:Fl.Nd}{ms:List Msg}
namespace Fl
def nilV:Vals:=⟨.slice none 0 0,.slice none 0 0,.slice none 0 0,.slice none 0 0,.slice none 0 0,.pointer none,.slice none 0 0,.slice none 0 0,.slice none 0 0,.slice none 0 0⟩
theorem Zqf(o:Own)(w:World)(i:Nat)(me:Int):NdR o w i (fresh me) nilV :=
 ⟨RVec.nil _ _ _,(fun s a=>by cases a),Row.nil _ _ _ _ _ _,Row.nil _ _ _ _ _ _,Row.nil _ _ _ _ _ _,RCrts.nil _,rfl,RVec.nil _ _ _,Row.nil _ _ _ _ _ _,RVec.nil _ _ _,Row.nil _ _ _ _ _ _⟩
theorem Zqw(me:Int)(w:World) :
 Calls prog 35 #[.int .i64 me] w fun e w'=>e=.returned (.agg (ndC (fresh me) nilV).toArray)∧Below w.heap.size w w':=by
 go_enter func35,ntmps35;have hn:=Blk.new w 113 #[.int .i64 0,.bool false,.int .i64 0,.slice none 0 0,.slice none 0 0,.slice none 0 0,.slice none 0 0,.slice none 0 0,.pointer none,.slice none 0 0,.slice none 0 0,.slice none 0 0,.int .i64 0,.slice none 0 0,.int .i64 0]
 have b:=Zac w (.cells #[.int .i64 0,.bool false,.int .i64 0,.slice none 0 0,.slice none 0 0,.slice none 0 0,.slice none 0 0,.slice none 0 0,.pointer none,.slice none 0 0,.slice none 0 0,.slice none 0 0,.int .i64 0,.slice none 0 0,.int .i64 0] 113);go_wp2_with (refine Zj 15 hn ?_);intro w2 c d;have a:Below w.heap.size w w2:=Zab b b.size d (by intro k e;injection e;omega);go_wp2;refine bodyPost_ret (Zay rfl rfl (by kernel_rfl) (by kernel_rfl) c rfl) rfl ?_;exact⟨rfl,a⟩
theorem fr_markN{T:Nat×Nat→Prop}{o:Own}(j:Lim o w)(a:Below w.heap.size w W)(l:w.heap.size≤b)(e:b<W.heap.size)(t:Nat×Nat)(i:t.1≠7):Fr T o w (mark o b (some t)) W:=by
 have g:=Fr.of_below (T:=T) j a;refine⟨a.os,a.tape,a.output,a.size,g.lim.mark e (fun k d=>by injection d with d;rw[d]at i;exact absurd rfl i),fun x f hn=>?_,fun x t' f c hT=>⟨t',by rw[Zb1 _ _ (by omega)];exact c,hT⟩⟩;rw[Zb1 _ _ (by omega)];exact g.keep x f hn
theorem Zx4{n0:Nd}(a:k<ms.length):(ms.take (k+1)).foldl recS n0=recS ((ms.take k).foldl recS n0) ms[k]:=by
 rw[Zn a,List.foldl_append];rfl
theorem Ztn:∀(ms:List Msg) (n:Nd),(ms.foldl recS n).me=n.me
 |[],_=>rfl
 |m::ms,n=>by rw[List.foldl_cons,Ztn ms,recS_me]
theorem rown_of{o:Own}{gh:Nat}{h:Hdr}{vb vp:Value}(hn:o gh=none)(H:Blk w gh 76 #[.int .i64 h.author,.int .i64 h.round,vb,vp])(rb:RDigs (Zas o w) vb h.batches)(rp:RDigs (Zas o w) vp h.parents):ROwn (Zas o w) (.pointer (some ⟨gh,0,none⟩)) (some h):=by
 have c:∀j,Zas o w ⟨gh,j,none⟩=w.cell? ⟨gh,j,none⟩:=fun j=>by unfold Zas;rw[if_neg (by rw[hn];simp)]
 refine⟨gh,vb,vp,rfl,?_,?_,?_,?_,rb,rp⟩
 ·rw[c];have:=H.cell 0;simpa using this
 ·rw[c];have:=H.cell 1;simpa using this
 ·rw[c];have:=H.cell 2;simpa using this
 ·rw[c];have:=H.cell 3;simpa using this
theorem Sec.range{cs:List Value}(h:Sec w g 0 cs):w.rangeAt g 0 cs:=fun j u hu=>by
 obtain⟨a,e⟩:=List.getElem?_eq_some_iff.1 hu
 have:=h.cell a
 rw[this,e]
theorem NdR.one{o:Own}{v:Vals}(h:NdR o w i n v):((ndC n v).all fun u=>u.oneCell')=true:=by
 obtain⟨tx,ba,di,ta,da,ow,mi,vo,tp,ou⟩:=v;obtain⟨A1,c1,e1,_⟩:=h.tx;obtain⟨A2,c2,e2⟩:=h.ba.form;obtain⟨A3,c3,e3⟩:=h.di.form;obtain⟨A4,c4,e4⟩:=h.ta.form;obtain⟨A5,c5,e5,_⟩:=h.da;obtain⟨A7,c7,e7,_⟩:=h.mi;obtain⟨A8,c8,e8⟩:=h.vo.form;obtain⟨A9,c9,e9,_⟩:=h.tp;obtain⟨A0,c0,e0⟩:=h.ou.form;have e6:=h.ow;simp only at e1 e2 e3 e4 e5 e6 e7 e8 e9 e0;subst e1 e2 e3 e4 e5 e7 e8 e9 e0;cases ho:n.own with
 |none=>rw[ho]at e6;have e6:ow=.pointer none:=e6;subst e6;rfl
 |some x=>rw[ho]at e6;obtain⟨b,vb,vp,e6,_⟩:=e6;subst e6;rfl
theorem Sec.putNx{v:Vals}{x:Int}(h:Sec w g off ((ndC n v).take 2++([Value.int .i64 x]++(ndC n v).drop (2+[Value.int .i64 x].length)))):Sec w g off (ndC {n with nx:=x } v):=h
theorem NdR.setNx{o:Own}{v:Vals}(h:NdR o w i n v)(x:Int):NdR o w i {n with nx:=x } v:=⟨h.tx,h.small,h.ba,h.di,h.ta,h.da,h.ow,h.mi,h.vo,h.tp,h.ou⟩
theorem Zyg(i gf:Nat)(f:Ft)(keep:Nat)(o:Own)(w:World)(hi:i<4)(hF:FtAt o w gf f)(hT:Tabs (Zas o w))(sq:(Zav f i).me=i)(h7:Zbc (Zav f i).tl (Zav f i).ty=true)(hk:keep≤400000)(M:∀tl ty,(∀q,CrFit (((rcvM (crL (Zav f i).tl (Zav f i).ty keep) (crA (Zav f i).tl (Zav f i).ty keep)).take q).foldl recS (cr0 i tl ty)))∧(∀m∈rcvM (crL (Zav f i).tl (Zav f i).ty keep) (crA (Zav f i).tl (Zav f i).ty keep),m.kind=1→(1≤m.bat.number∧m.bat.number≤1048576)∧∀s∈m.bat.txs,s.size≤20)) :
 Calls prog 106 #[.pointer (some ⟨gf,0,none⟩),.int .i64 (i:Int),.int .i64 (keep:Int)] w fun e w'=>e=.returned (.tuple #[])∧∃o',Fr All o w o' w'∧FtAt o' w' gf (Za4 f i (crash (Zav f i) i keep)):=by
 obtain⟨n,hn⟩:∃n,Hid (Zav f i=n):=⟨_,rfl⟩;obtain⟨QR,hy⟩:∃q,Hid (crash (Zav f i) i keep=q):=⟨_,rfl⟩;obtain⟨ct1,ct2,g3⟩:=Zvh (keep:=(keep:Int)) h7 (by omega);have N0:=hF.node i hi;rw[hy.out];rw[hn.out]at N0 h7 M ct1 ct2 g3 hy;obtain⟨ML,Y⟩:∃q,Hid (rcvM (crL n.tl n.ty keep) (crA n.tl n.ty keep)=q):=⟨_,rfl⟩;obtain⟨DL,hv⟩:∃q,Hid (rcvD (crL n.tl n.ty keep) (crA n.tl n.ty keep)=q):=⟨_,rfl⟩;obtain⟨YL,g0⟩:∃q,Hid (rcvY (crL n.tl n.ty keep) (crA n.tl n.ty keep)=q):=⟨_,rfl⟩;have HQ:Hid (QR=ML.foldl recS (cr0 i DL YL)):=by show _=_;rw[←hy.out,Zvi,Y.out,hv.out,g0.out]
 rw[Y.out]at M;have ga:=Zb (M DL YL);obtain⟨a,ha⟩:∃a:Nat,n.ty=a:=⟨n.ty.toNat,by omega⟩;obtain⟨cl,hz⟩:∃cl,Hid (n.tl.take (Zdw n.ty keep n.tl.length)=cl):=⟨_,rfl⟩;obtain⟨ca,hx⟩:∃ca:Nat,Hid (Zdw n.ty keep n.tl.length=ca):=⟨_,rfl⟩;rw[ct1,ct2,hz.out,hx.out]at Y hv g0;rw[ha]at hz hx h7;have sh:=Zb h7;have ay:=Zb sq;clear M ct1 ct2 h7 sq hy g3;obtain⟨off,g9⟩:∃off,Hid (1+i*15=off):=⟨_,rfl⟩;rw[g9.out]at N0;obtain⟨b2,⟨vtx,vba,vdi,vta,vda,vow,vmi,vvo,vtp,vou⟩,S0,R0⟩:=id N0;have l0:=hF.lim;have s11:=S0.nd11;have s12:=S0.nd12;simp only at s11 s12;rw[ha]at s12;rw[←g9.out]at s11 s12;have rtp:Zan w.cell? vtp n.tl:=R0.tp.mono (Zah _ _);obtain⟨tpA,tpc,gr,_⟩:=id rtp;have gr:vtp=.slice tpA n.tl.length tpc:=gr;subst gr;have ar:(i:Int)<4:=by omega
 have av:(0:Int)≤(i:Int):=by omega
 clear S0 R0 N0 ha;go_enter func106,ntmps106;go_wp2_with fail;refine(Zye a keep _ n.tl w rtp sh.out (by omega)).mono ?_;rintro e w1 ⟨d,rfl,L,rd⟩;rw[hz.out]at rd;rw[hx.out];obtain⟨dA,dc,rfl,st⟩:=id rd;clear st;have F1:=hF.below L;go_upto_region 1 with fail;refine Zo fun W hm he J=>?_
 have F2:=F1.below J;have rd2:=rd.mono (Zaa J);have k0:=hm.cell 0;have k1:=hm.cell 1;simp at k0 k1;go_wp2_with fail;refine(Zp8 ca _ cl W rd2).mono ?_;rintro e w3 ⟨vm,vd,rfl,hg,rm,rdd⟩;rw[Y.out]at rm;rw[hv.out]at rdd;rw[g0.out];obtain⟨mA,mc,rfl,a9⟩:=id rm;obtain⟨vA,vc,rfl,su⟩:=id rdd;clear a9 su;have F3:=F2.below hg;have g2:=hm.kept hg;have ex:Ext W.heap.size w3 w3:=Ext.refl _ _;have gp:w.heap.size≤W.heap.size:=Zg L.size J.size;have g8:=hm.lt;go_wp2_with (refine Zj 2 g2 ?_);intro w4 g5 S;have ex:=ex.store S (.inl g8);have u:Below w1.heap.size w1 w4:=Zab (J.trans (hg.mono J.size)) (by have:=J.size;have:=hg.size;omega) S (by intro k e;injection e;omega);have F4:=F1.below u;clear k0 k1;go_wp2_with fail;refine(Zqw (i:Int) w4).mono ?_;rintro e w5 ⟨rfl,Q⟩;have F5:=F4.below Q;have h0:=g5.kept Q;have ex:=ex.below Q;have l5:=F5.lim;have rm5:=rm.mono RMsgR.mono (ex.hide l0 gp);have rd5:=rdd.mono (ex.hide l0 gp);have gb:=Blk.new w5 113 #[.int .i64 0,.bool false,.int .i64 0,.slice none 0 0,.slice none 0 0,.slice none 0 0,.slice none 0 0,.slice none 0 0,.pointer none,.slice none 0 0,.slice none 0 0,.slice none 0 0,.int .i64 0,.slice none 0 0,.int .i64 0];have E:=Zac w5 (.cells #[.int .i64 0,.bool false,.int .i64 0,.slice none 0 0,.slice none 0 0,.slice none 0 0,.slice none 0 0,.slice none 0 0,.pointer none,.slice none 0 0,.slice none 0 0,.slice none 0 0,.int .i64 0,.slice none 0 0,.int .i64 0] 113);unfold ndC fresh nilV;go_wp2_with (refine Zj 15 gb ?_);intro w6 g6 I;have R:Below w5.heap.size w5 w6:=Zab E E.size I (by intro k e;injection e;omega);have g4:=h0.kept R;go_upto_region 3 with fail;refine Zt (fun w'=>Below w6.heap.size w6 w') (fun w'=>Blk w' w1.heap.size 110 #[.slice vA DL.length vc,.int .i64 YL]) [4] (.q 0 (.q 1 (.l 2 (.q 3 (.l 4 .nil))))) ?_ ?_
 ·exact⟨Zad _,g4.drew⟩
 intro w7 A hS
 repeat((first|refine pq (h:=⟨_,fun w' hS=>by(have y0:=hS.cell 0;have y1:=hS.cell 1;simp at y0 y1;go_simp;exact rfl),?_⟩)|refine Zq ?_);simp only[sx])
 have h1:=g6.kept A;have sm:w1.heap.size≠w5.heap.size:=by have:=h0.lt;omega
 refine Zd fun K r=>?_
 try simp only[sy]
 refine Zau (n:=1) rfl rfl rfl (by kernel_rfl) rfl h1 (by simp) rfl ?_;intro w8 hf D;refine r.out _ _ (hS.grown D (by intro e;injection e with e;exact sm e)) fun hS=>?_
 clear r K
 try simp only[sx]
 repeat(refine Zq ?_;simp only[sx])
 refine Zc fun K r=>?_
 try simp only[sy]
 refine Zau (n:=2) rfl rfl rfl (by kernel_rfl) rfl hf (by simp) rfl ?_;intro w9 p hl;have p:Blk w9 w5.heap.size 113 #[.int .i64 (i:Int),.bool false,.int .i64 1,.slice none 0 0,.slice none 0 0,.slice none 0 0,.slice none 0 0,.slice none 0 0,.pointer none,.slice none 0 0,.slice none 0 0,.slice vA DL.length vc,.int .i64 YL,.slice none 0 0,.int .i64 0]:=p;have sk:Below w5.heap.size w5 w9:=Zab (Zab (R.trans (A.mono R.size)) (by have:=R.size;have:=A.size;omega) D (by intro k e;injection e;omega)) (by have:=R.size;have:=A.size;have:=D.size;omega) hl (by intro k e;injection e;omega);refine r.out _ _ ?_;clear r K
 try simp only[sx]
 repeat(refine Zq ?_;simp only[sx])
 refine Zai ?_;have f9:=fr_markN (T:=fun _=>False) l5 sk (Za _) p.lt (8,1) (by decide);have gj:=Zc9 o w5.heap.size (some (8,1));have A9:Fr All o w (mark o w5.heap.size (some (8,1))) w9:=All.trans (Fr.of_below l0 (L.trans ((u.trans (Q.mono u.size)).mono L.size))) f9.all;have F9:=F5.fr f9 (fun _ _ _ _ h=>h) (fun h=>h);have rm9:=rm5.mono RMsgR.mono f9.view;have rd9:=rd5.mono f9.view;have T9:Tabs (Zas (mark o w5.heap.size (some (8,1))) w9):=(hT.mono (Zaf l0 (L.trans ((u.trans (Q.mono u.size)).mono L.size)))).mono f9.view;obtain⟨gn,gv⟩:∃gn,gn=w5.heap.size:=⟨_,rfl⟩;rw[←gv]at p gj A9 F9 rm9 rd9 T9⊢;have ax:=Zb gv;clear gv;generalize mark o gn (some (8,1))=o9 at *
 have N9:NodeAt o9 w9 4 1 gn 0 (cr0 i DL YL):=by
  refine⟨gj,{ nilV with tp:=.slice vA DL.length vc },⟨_,_,p,Za _,fun j hj=>?_⟩,?_⟩
  ·rw[Nat.zero_add];exact(Array.getElem?_toList).symm
  ·exact((Zqf o9 w9 4 i).setUp false).setTp (y:=YL) rd9
 have l9:=F9.lim;clear hS h1 sm hf D p hl sk f9 rm5 rd5 gb E g6 I R g4 A ex h0 F5 Q l5 F4 u g5 S g8 gp g2 F3 rm rdd hg rd2 F2 hm he J F1 rd L hn Y hv g0 hz hx sh rd9 s11 s12 rtp gj;go_wp2_with fail
 go_loopw [12,13,14,15,16,42,48,68,94,103] (fun _ _ _ _ _ j _ _ _ _ wr=>∃(k:Nat) (o':Own),k≤ML.length∧j=.int .i64 k∧NFr 4 1 gn 0 o9 w9 o' wr∧NodeAt o' wr 4 1 gn 0 ((ML.take k).foldl recS (cr0 i DL YL))) (fun _ _ _ _ _ j _ _ _ _ _=>ML.length-(intOf j).toNat)
 case atStart=>exact⟨0,o9,Zf _,rfl,NFr.refl l9,N9⟩
 case round =>
  obtain⟨k,o1,b7,rfl,K1,N1⟩:=hrel;have l1:=K1.fr.lim;have T1:=T9.mono K1.fr.view;have rmr:=rm9.mono RMsgR.mono K1.fr.view
  by_cases gi:k<ML.length
  ·have s1:(k:Int)<ML.length:=by omega
   obtain⟨A9',c9,af,b5,b6,b9,-,sf⟩:=id rmr;injection af with he1 _ he3;subst he1 he3;obtain⟨bb,bo,hA,sp⟩:=sf (by omega);subst hA;obtain⟨cs9,-,X,⟨vt,vb,vp,vd',cb,cp,cv,rfl,rmm⟩⟩:=sp k gi;have hw:=Zb (Zx4 (n0:=cr0 i DL YL) gi);have F:=Zb (ga.out.1 k);have x:=Zb (ga.out.2 ML[k] (List.getElem_mem gi));obtain⟨nk,si⟩:∃nk,Hid ((ML.take k).foldl recS (cr0 i DL YL)=nk):=⟨_,rfl⟩;have g7:Hid (nk.me=(i:Int)):=by show _=_;rw[←si.out,Ztn];rfl
   obtain⟨nk1,gh⟩:∃nk1,Hid ((ML.take (k+1)).foldl recS (cr0 i DL YL)=nk1):=⟨_,rfl⟩;rw[si.out]at N1 hw F;rw[gh.out]at hw;generalize ML[k]=m at *;have rm0:=rmm;obtain⟨⟨tA,tc,rfl⟩,⟨bA,bc,rfl⟩,⟨pA,pc,rfl⟩,⟨dA',dc',rfl⟩,⟨cA,cc,rfl⟩,⟨qA,qc,rfl⟩,⟨eA,ec,rfl⟩⟩:=rm0.forms;clear rm0 sf sp
   have gw:∀j v,(#[.int .i64 m.src,.int .i64 m.dst,.int .i64 m.kind,.int .i64 m.bat.author,.int .i64 m.bat.number,.slice tA m.bat.txs.length tc,.int .i64 m.hdr.author,.int .i64 m.hdr.round,.slice bA m.hdr.batches.length bc,.slice pA m.hdr.parents.length pc,.int .i64 m.slt.author,.int .i64 m.slt.round,.slice dA' m.slt.digest.length dc',.int .i64 m.crt.hdr.author,.int .i64 m.crt.hdr.round,.slice cA m.crt.hdr.batches.length cc,.slice qA m.crt.hdr.parents.length qc,.slice eA m.crt.voters.length ec,.int .i64 m.round]:Array Value).toList[j]?=some v→wr.cell? ((⟨bb,bo+k*19,none⟩:Addr).add j)=some v:=fun j v hj=>by
    have sw:j<19:=(List.getElem?_eq_some_iff.1 hj).1;rw[Zbs];exact Zah _ _ _ _ ((X j sw).trans hj)
   clear X
   go_upto_block 1 with fail
   go_cut [12,13,14,15,16,44,45,46,47,48,68,94,103] (fun _ _ _ _ _ _ _ _ _ _ _ _ _ w'=>∃o',NFr 4 1 gn 0 o9 w9 o' w'∧NodeAt o' w' 4 1 gn 0 (recS nk m))
   case first =>
    have hn:=Blk.new wr 90 #[.int .i64 0,.int .i64 0,.int .i64 0,.int .i64 0,.int .i64 0,.slice none 0 0,.int .i64 0,.int .i64 0,.slice none 0 0,.slice none 0 0,.int .i64 0,.int .i64 0,.slice none 0 0,.int .i64 0,.int .i64 0,.slice none 0 0,.slice none 0 0,.slice none 0 0,.int .i64 0];have gl:=Zac wr (.cells #[.int .i64 0,.int .i64 0,.int .i64 0,.int .i64 0,.int .i64 0,.slice none 0 0,.int .i64 0,.int .i64 0,.slice none 0 0,.slice none 0 0,.int .i64 0,.int .i64 0,.slice none 0 0,.int .i64 0,.int .i64 0,.slice none 0 0,.slice none 0 0,.slice none 0 0,.int .i64 0] 90);go_wp2_with (first|(refine Zbe (n:=19) (#[.int .i64 m.src,.int .i64 m.dst,.int .i64 m.kind,.int .i64 m.bat.author,.int .i64 m.bat.number,.slice tA m.bat.txs.length tc,.int .i64 m.hdr.author,.int .i64 m.hdr.round,.slice bA m.hdr.batches.length bc,.slice pA m.hdr.parents.length pc,.int .i64 m.slt.author,.int .i64 m.slt.round,.slice dA' m.slt.digest.length dc',.int .i64 m.crt.hdr.author,.int .i64 m.crt.hdr.round,.slice cA m.crt.hdr.batches.length cc,.slice qA m.crt.hdr.parents.length qc,.slice eA m.crt.voters.length ec,.int .i64 m.round]:Array Value).toList rfl rfl rfl rfl (by kernel_rfl) (by kernel_rfl) (by kernel_rfl) gw ?_)|(refine Zj 19 hn ?_));intro W2 B s4;have hc:Below wr.heap.size wr W2:=Zab gl gl.size s4 (by intro k e;injection e;omega);clear hn gl s4 gw;go_upto_region 7 with fail;have K2:=K1.below hc;have N2:=N1.below l1 hc;have l2:=Zam l1 hc;have v2:=Zaf l1 hc;have rm2:=rmm.mono v2;have T2:=T1.mono v2;have s3:=l1.none wr.heap.size (Za _);have e2:=B.cell 2;simp at e2;obtain⟨K,r⟩:∃K,Hid (m.kind=K):=⟨_,rfl⟩;rw[r.out]at e2;clear K1 N1 l1 T1 rmr rmm v2 hc
    by_cases k1:K=1
    ·have kb:(K==1)=true:=by simpa using k1
     have he:=x.out (r.out.trans k1);have gc:∀s∈m.bat.txs,s.size≤140737488355328:=fun s hs=>Zg (he.2 s hs) (by decide)
     have au:=he.1
     have C:Hid (recS nk m=if m.bat.author=(i:Int)then {(store nk m.bat false).1 with nx:=max nk.nx (m.bat.number+1) } else(store nk m.bat false).1):=by
      show _=_;unfold recS;rw[if_pos (r.out.trans k1),g7.out,(Zg3 nk m.bat false).nx]
     have c3:=B.cell 3;have c4:=B.cell 4;have c5:=B.cell 5;simp at c3 c4 c5;clear k1 he;go_wp2_with fail;refine(Zk6 4 1 gn 0 nk m.bat false _ o1 W2 l2 (by decide) N2 T2 rm2.txs gc (by rw[F.out.dd];exact F.out.bats) F.out.bats).mono ?_;rintro e w3 ⟨rfl,o3,K3,N3⟩;have sa:=Za3 B K3.fr s3;have K23:=K2.trans K3;have c3:=sa.cell 3;have c4:=sa.cell 4;simp at c3 c4
     by_cases ha:m.bat.author=(i:Int)
     rotate_left
     ·have a6:(m.bat.author==(i:Int))=false:=by simpa using ha
      have b:NodeAt o3 w3 4 1 gn 0 (recS nk m):=by rw[C.out,if_neg ha];exact N3
      clear N3 C ha;go_wp2_with fail;go_meet;exact⟨o3,K23,b⟩
     have a6:(m.bat.author==(i:Int))=true:=by simpa using ha
     have U:Hid (recS nk m={ (store nk m.bat false).1 with nx:=max nk.nx (m.bat.number+1) }):=by show _=_;rw[C.out,if_pos ha]
     have ab:=F.out.nx;have gu:=(Zg3 nk m.bat false).nx;obtain⟨nb1,O⟩:∃z:Int,m.bat.number+1=z:=⟨_,rfl⟩;obtain⟨MX,a8⟩:∃z:Int,max nk.nx nb1=z:=⟨_,rfl⟩;rw[O,a8]at U;have gm:=U;obtain⟨n3,a1⟩:∃n3,Hid ((store nk m.bat false).1=n3):=⟨_,rfl⟩;rw[a1.out]at N3 gm gu;obtain⟨gs,⟨ytx,yba,ydi,yta,yda,yow,ymi,yvo,ytp,you⟩,S3,R3⟩:=id N3;have s2:=S3.nd2;rw[gu]at s2;simp only[Nat.zero_add]at s2;have s5:IntKind.i64.wrap nb1=nb1:=by rw[IntKind.wrap_i64];omega
     have ba:=Zb O;have Ha:=Zb ha;have e4:m.bat.number=nb1-1:=by omega
     clear ab gu C N3 ha gc;have az:IntKind.i64.wrap (m.bat.number+1)=nb1:=by rw[O];exact s5
     clear e4 O s5;have l3:=K3.fr.lim;go_wp2_with (refine Sec.store S3 (i:=2) [.int .i64 MX] (show 2+1≤15 by decide) rfl rfl rfl rfl (by kernel_rfl) rfl rfl ?_);intro w4 S4 S h4;have f4:=Zap l3 S gs;have R4:=(R3.fr f4 (fun k e=>by injection e;omega)).setNx MX;have K4:=K23.store gs S h4 (show 2+1≤15 by decide);have b:NodeAt o3 w4 4 1 gn 0 (recS nk m):=by rw[gm.out];exact⟨gs,_,S4.putNx,R4⟩
     clear S4 R4 S3 R3 U gm K23;go_wp2_with fail;go_meet;exact⟨o3,K4,b⟩
    have kb:(K==1)=false:=by simpa using k1
    by_cases k2:K=2
    ·have kb2:(K==2)=true:=by simpa using k2
     obtain⟨h,hh⟩:∃h,Hid (m.hdr=h):=⟨_,rfl⟩
     have C:Hid (recS nk m={ nk with own:=some h,voters:=[(i:Int)],mine:=hdR h,table:=if Ze5 nk.table h=0 then Zc6 nk.table h else nk.table }):=by
      show _=_;unfold recS;rw[if_neg (by rw[r.out];exact k1),if_pos (r.out.trans k2),g7.out,hh.out]
     have c6:=B.cell 6;have c7:=B.cell 7;have c8:=B.cell 8;have c9:=B.cell 9;simp at c6 c7 c8 c9;have rb:=rm2.bats;have rp:=rm2.pars;have eb:Hid (m.hdr.batches.length=h.batches.length):=by show _=_;rw[hh.out]
     have ep:Hid (m.hdr.parents.length=h.parents.length):=by show _=_;rw[hh.out]
     rw[hh.out]at c6 c7 c8 c9 rb rp;clear k1 k2 rm2 x;go_upto_region 14 with fail;refine Zo fun W3 hH a0 h2=>?_
     have K3:=K2.below h2;have N3:=N2.below l2 h2;have l3:=Zam l2 h2;have v3:=Zaf l2 h2;have T3:=T2.mono v3;have rb3:=rb.mono Ze v3;have rp3:=rp.mono Ze v3;have ad:=l2.none W2.heap.size (Za _);have b4:=Zac W3 (.cells #[.int .i64 (i:Int)] 3);have f4:=Fr.alloc_mark (T:=fun _=>False) l3 (.cells #[.int .i64 (i:Int)] 3) (some (4,4)) (fun k hk=>by injection hk with hk;injection hk with hk _;omega);have m4:=Zc9 o1 W3.heap.size (some (4,4));have L4:=Blk.new W3 3 #[.int .i64 (i:Int)];have N:mark o1 W3.heap.size (some (4,4)) W2.heap.size=none:=by rw[Zb1 _ _ (by have:=hH.lt;omega)];exact ad
     have H4:=hH.alloc (.cells #[.int .i64 (i:Int)] 3);have K4:=K3.step N3.mark f4 (fun _ h=>h.elim) (by decide);have N4:=N3.fr f4 (fun _ h=>h) (fun h=>h);have T4:=T3.mono f4.view;have rb4:=rb3.mono Ze f4.view;have rp4:=rp3.mono Ze f4.view;have l4:=f4.lim;have aw:=F.out.table;clear N2 K2 l2 T2 rb rp B s3 K3 N3 l3 v3 T3 rb3 rp3 hH h2 a0 b4 f4 eb ep c6 c7 c8 c9 e2;obtain⟨c,⟨xtx,xba,xdi,xta,xda,xow,xmi,xvo,xtp,xou⟩,S4,R4⟩:=id N4;go_wp2_with (refine Sec.store S4 (i:=8) [.pointer (some ⟨W2.heap.size,0,none⟩)] (show 8+1≤15 by decide) rfl rfl rfl rfl (by kernel_rfl) rfl rfl ?_);intro w5' S5 hq h5;have f5:=Zap l4 hq c;have H5:=Za3 H4 f5 N;have gd:some W3.heap.size≠some gn:=fun e=>by injection e with e;rw[←e,m4]at c;injection c with c;injection c with c _;omega
     have L5:=L4.grown hq gd;have rb5:=rb4.mono Ze f5.view;have rp5:=rp4.mono Ze f5.view;have R5:=(R4.fr f5 (fun k e=>by injection e;omega)).setOw (rown_of N H5 rb5 rp5);have S5:=S5.putOw (xs:=some h);have K5:=K4.store c hq h5 (show 8+1≤15 by decide);have l5:=f5.lim;have T5:=T4.mono f5.view;clear S4 R4 K4 H4 L4 hq h5 f5 rb4 rp4 l4 T4 N4;go_wp2_with (refine Sec.store S5 (i:=10) [.slice (some ⟨W3.heap.size,0,none⟩) 1 1] (show 10+1≤15 by decide) rfl rfl rfl rfl (by kernel_rfl) rfl rfl ?_);intro w6' S6 I h6;have f6:=Zap l5 I c;have H6:=Za3 H5 f6 N;have L6:=L5.grown I gd;have rb6:=rb5.mono Ze f6.view;have rp6:=rp5.mono Ze f6.view;have R6:=(R5.fr f6 (fun k e=>by injection e;omega)).setVo (Zoo L6 m4);have S6:=S6.putVo (xs:=[(i:Int)]);have K6:=K5.store c I h6 (show 10+1≤15 by decide);have l6:=f6.lim;have T6:=T5.mono f6.view;clear S5 R5 K5 H5 L5 I h6 f6 rb5 rp5 l5 T5 L6 m4;generalize mark o1 W3.heap.size (some (4,4))=o4 at *;have N6:NodeAt o4 w6' 4 1 gn 0 {nk with own:=some h,voters:=[(i:Int)] }:=⟨c,_,S6,R6⟩;have c0:=H6.cell 0;have c1:=H6.cell 1;have c2:=H6.cell 2;have c3:=H6.cell 3;simp at c0 c1 c2 c3;clear S6 R6;go_wp2_with fail;refine(Zby h.author h.round _ _ h.batches h.parents w6' (rb6.mono Ze (Zah _ _)) (rp6.mono Ze (Zah _ _)) (T6.mono (Zah _ _))).mono ?_;rintro e w7' ⟨d7,rfl,P,rd7⟩;obtain⟨d7A,d7c,rfl,a3⟩:=id rd7;clear a3;have N7:=N6.below l6 P;have K7:=K6.below P;have l7:=Zam l6 P;have v7:=Zaf l6 P;have rb7:=rb6.mono Ze v7;have rp7:=rp6.mono Ze v7;have T7:=T6.mono v7;have H7:=H6.kept P;have rd7':=rd7.mono (Zbz l6);obtain⟨Z,⟨ytx,yba,ydi,yta,yda,yow,ymi,yvo,ytp,you⟩,S7,R7⟩:=id N7;clear c0 c1 c2 c3 N6 K6 l6 rb6 rp6 T6 H6 v7 rd7 P;go_wp2_with (refine Sec.store S7 (i:=9) [.slice d7A (Zjq h.author h.round h.batches h.parents).length d7c] (show 9+1≤15 by decide) rfl rfl rfl rfl (by kernel_rfl) rfl rfl ?_);intro w8 S8 D h8;have f8:=Zap l7 D Z;have R8:=(R7.fr f8 (fun k e=>by injection e;omega)).setMi (rd7'.mono f8.view)
     have S8:=S8.putMi (xs:=hdR h);have K8:=K7.store Z D h8 (show 9+1≤15 by decide);have N8:NodeAt o4 w8 4 1 gn 0 {nk with own:=some h,voters:=[(i:Int)],mine:=hdR h }:=⟨Z,_,S8,R8⟩;have H8:=Za3 H7 f8 N;have rb8:=rb7.mono Ze f8.view;have rp8:=rp7.mono Ze f8.view;have T8:=T7.mono f8.view;have l8:=f8.lim;clear S7 R7 N7 K7 H7 rb7 rp7 T7 l7 rd7' D h8 f8 S8 R8;obtain⟨s8,⟨ztx,zba,zdi,zta,zda,zow,zmi,zvo,ztp,zou⟩,S8,R8⟩:=id N8;have rta:RSlots w8.cell? zta nk.table:=R8.ta.reads (bs:=40) RSlot.mono (by(try simp only);omega);obtain⟨taA,tac,H⟩:=R8.ta.form;have H:zta=.slice taA nk.table.length tac:=H;subst H;have s6:=S8.nd6;simp only[Nat.zero_add]at s6;have c0:=H8.cell 0;have c1:=H8.cell 1;have c2:=H8.cell 2;have c3:=H8.cell 3;simp at c0 c1 c2 c3;obtain⟨QE,s9⟩:∃q,Hid (Ze5 nk.table h=q):=⟨_,rfl⟩;obtain⟨QL,sj⟩:∃q,Hid (Zc6 nk.table h=q):=⟨_,rfl⟩;obtain⟨QS,sb⟩:∃q,Hid (Zcz nk.table h=q):=⟨_,rfl⟩;rw[s9.out,sj.out]at C;clear S8 R8;go_wp2_with fail;refine(Zgy _ nk.table h _ _ w8 rta (rb8.mono Ze (Zah _ _)) (rp8.mono Ze (Zah _ _)) (T8.mono (Zah _ _))).mono ?_;rintro e w10 ⟨d10,sd,rfl,E,od10,rd10⟩;rw[s9.out,sb.out];rw[sj.out]at od10;rw[sb.out]at rd10;obtain⟨A10,c10,rfl⟩:=od10.form;obtain⟨sA,sc,rfl,a4⟩:=id rd10;obtain⟨o5,row5,sn,gx,sz⟩:=Zjf RSlot.mono l8 E (Za _) od10 (4,3) (fun g k _ e=>by injection e;omega);have f10:=sn (fun _=>False);have N10:=N8.fr f10 (fun _ h=>h) (fun h=>h);have K10:=K8.step s8 f10 (fun _ h=>h.elim) (by decide);have l10:=f10.lim;clear a4 od10 rd10 sn gx sz rta c0 c1 c2 c3 s6 H8 rb8 rp8 T8 N8 K8 l8 f10;go_upto_region 17 with fail;refine Zo fun W11 hB aa hb=>?_
     have N11:=N10.below l10 hb;have K11:=K10.below hb;have l11:=Zam l10 hb;have row11:=row5.fr RSlot.mono (Fr.of_below (T:=fun _=>False) l10 hb) (fun h=>h);clear aa hB N10 K10 l10 row5 hb
     by_cases hE:QE=0
     rotate_left
     ·have sv:(QE==0)=false:=by simpa using hE
      have b:NodeAt o5 W11 4 1 gn 0 (recS nk m):=by rw[C.out,if_neg hE];exact N11
      clear N11 C hE row11;go_wp2_with fail;go_meet;exact⟨o5,K11,b⟩
     have sv:(QE==0)=true:=by simpa using hE
     have U:Hid (recS nk m={ nk with own:=some h,voters:=[(i:Int)],mine:=hdR h,table:=QL }):=by show _=_;rw[C.out,if_pos hE]
     obtain⟨G,⟨ytx,yba,ydi,yta,yda,yow,ymi,yvo,ytp,you⟩,S11,R11⟩:=id N11;clear N11 C hE;go_wp2_with (refine Sec.store S11 (i:=6) [.slice A10 QL.length c10] (show 6+1≤15 by decide) rfl rfl rfl rfl (by kernel_rfl) rfl rfl ?_);intro w12 S12 g1 ag;have f12:=Zap l11 g1 G;have R12:=(R11.fr f12 (fun k e=>by injection e;omega)).setTa (row11.fr RSlot.mono f12 (by simp));have K12:=K11.store G g1 ag (show 6+1≤15 by decide);have b:NodeAt o5 w12 4 1 gn 0 (recS nk m):=by rw[U.out];exact⟨G,_,S12.putTa,R12⟩
     clear S12 R12 S11 R11 K11 U;go_wp2_with fail;go_meet;exact⟨o5,K12,b⟩
    have kb2:(K==2)=false:=by simpa using k2
    by_cases k3:K=3
    ·have kb3:(K==3)=true:=by simpa using k3
     have C:Hid (recS nk m={ nk with table:=nk.table++[m.slt] }):=by
      show _=_;unfold recS;rw[if_neg (by rw[r.out];exact k1),if_neg (by rw[r.out];exact k2),if_pos (r.out.trans k3)]
     have c10:=B.cell 10;have c11:=B.cell 11;have c12:=B.cell 12;simp at c10 c11 c12;obtain⟨gq,⟨xtx,xba,xdi,xta,xda,xow,xmi,xvo,xtp,xou⟩,S2,R2⟩:=id N2;have s6:=S2.nd6;obtain⟨taA,tac,H⟩:=R2.ta.form;have H:xta=.slice taA nk.table.length tac:=H;subst H;simp only[Nat.zero_add]at s6;have rd:=rm2.dig;clear k1 k2 k3 x;have ah:=F.out.table;go_wp2_with (at_builtin;go_loud (refine Zcw (n:=140737488355328) RSlot.mono m.slt [.int .i64 m.slt.author,.int .i64 m.slt.round,.slice dA' m.slt.digest.length dc'] Zku _ _ rfl rfl rfl R2.ta l2 (by simp) rfl rfl rfl rfl ⟨_,rfl,rd⟩ (Za _) (show(nk.table.length+1)*40≤140737488355328 by omega) (show nk.table.length+1≤140737488355328 by omega) ?_));intro v' w8 o8 r8 f8;have S8:=S2.fr f8 gq (by simp);have m8:=Zb6 S2.lt f8 gq (by simp);have R8:=R2.ta' f8 r8;have K8:=K2.step gq f8 (fun t ht=>.inl (by rw[ht])) (by omega);obtain⟨A8,c8,a2⟩:=r8.form;subst a2;go_wp2_with (refine Sec.store S8 (i:=6) [.slice A8 (nk.table++[m.slt]).length c8] (show 6+1≤15 by decide) rfl rfl rfl rfl (by kernel_rfl) rfl rfl ?_);intro w9' S9 hl h9;have R9:=R8.fr (Zap K8.fr.lim hl m8) (fun k e=>by injection e;omega);have K9:=K8.store m8 hl h9 (show 6+1≤15 by decide)
     (try simp only[Zl,List.length_singleton]at R9 S9)
     have b:NodeAt o8 w9' 4 1 gn 0 (recS nk m):=by rw[C.out];exact⟨m8,_,S9.putTa,R9⟩
     clear S9 R9 S8 R8 S2 R2 C;go_wp2_with fail;go_meet;exact⟨o8,K9,b⟩
    have kb3:(K==3)=false:=by simpa using k3
    by_cases k4:K=4
    ·have kb4:(K==4)=true:=by simpa using k4
     have C:Hid (recS nk m=(insert nk m.crt false).1):=by
      show _=_;unfold recS;rw[if_neg (by rw[r.out];exact k1),if_neg (by rw[r.out];exact k2),if_neg (by rw[r.out];exact k3),if_pos (r.out.trans k4)]
     have c13:=B.cell 13;have c14:=B.cell 14;have c15:=B.cell 15;have c16:=B.cell 16;have c17:=B.cell 17;simp at c13 c14 c15 c16 c17;clear k1 k2 k3 k4 x;go_wp2_with fail;refine(Zjo 4 1 gn 0 nk m.crt false _ _ _ o1 W2 l2 (by decide) N2 T2 rm2.cbats rm2.cpars rm2.vots).mono ?_;rintro e w3 ⟨rfl,o3,K3,N3⟩;rw[←C.out]at N3;go_wp2_with fail;go_meet;exact⟨o3,K2.trans K3,N3⟩
    have kb4:(K==4)=false:=by simpa using k4
    have C:Hid (recS nk m=nk):=by
     show _=_;unfold recS;rw[if_neg (by rw[r.out];exact k1),if_neg (by rw[r.out];exact k2),if_neg (by rw[r.out];exact k3),if_neg (by rw[r.out];exact k4)]
    have b:NodeAt o1 W2 4 1 gn 0 (recS nk m):=by rw[C.out];exact N2
    clear k1 k2 k3 k4 x N2 C;go_wp2_with fail;go_meet;exact⟨o1,K2,b⟩
   case rest =>
    obtain⟨o3,K3,N3⟩:=hcut;rw[←hw.out,←gh.out]at N3;clear K1 N1 l1 T1 rmr rmm hw F x gw;go_wp2;go_roundw
    case rel=>exact⟨k+1,o3,by omega,by go_num,K3,N3⟩
    case measure=>simp[intOf]<;>omega
  ·have sl:k=ML.length:=by omega
   have s1:¬(k:Int)<ML.length:=by omega
   rw[sl,List.take_length,←HQ.out]at N1
   have F1:FtAt o1 wr gf f:=F9.fr K1.fr (fun j m hj h4 e=>by
    rcases e with e|e
    ·injection e with e _;omega
    ·exact h4 e) (by simp)
   have A1:=All.trans A9 K1.fr.all;clear sl rmr T1;obtain⟨ap,⟨xtx,xba,xdi,xta,xda,xow,xmi,xvo,xtp,xou⟩,S1,R1⟩:=id N1;obtain⟨_,v0,S0,R0⟩:=F1.node i hi;obtain⟨V,hV⟩:∃V:Vals,V=⟨xtx,xba,xdi,xta,xda,xow,xmi,xvo,xtp,xou⟩:=⟨_,rfl⟩;rw[←hV]at S1 R1;have gg:=R1.one;have l1:=F1.lim;have sg:=Zb gg;clear gg N1 HQ hV;go_upto_region 24 with fail;refine Zt (fun w'=>Below wr.heap.size wr w') (fun w'=>Sec w' gn 0 (ndC QR V)) [6] (.q 0 (.q 1 (.q 2 (.q 3 (.q 4 (.q 5 (.l 6 .nil))))))) ?_ ?_
   ·exact⟨Zad _,S1.same rfl⟩
   intro W2 A hS
   repeat(refine Zq ?_;simp only[sx])
   refine pl_q (by assumption) rfl rfl ?_;apply Exists.intro;refine⟨fun w' hS=>Zg7 113 _ rfl _ _ rfl _ _ (Sec.range hS) underlying113 rfl (by kernel_rfl),?_⟩;simp only[List.getElem_toArray,List.getElem_cons_zero,List.getElem_cons_succ,Act.put,List.setIfInBounds_toArray,List.set_cons_zero,List.set_cons_succ]
   repeat(refine Zq ?_;simp only[sx])
   have F2:=F1.below A;have l2:=F2.lim;obtain⟨_,v2,S2,_⟩:=F2.node i hi;have R2:=R1.fr (Fr.of_below (T:=fun _=>False) l1 A) (fun _ h=>h);have A2:=All.trans A1 (Fr.of_below (T:=All) l1 A);refine Zc fun K r=>?_
   try simp only[sy]
   refine Sec.wp_store S2 (i:=0) (ndC QR V) (show 0+15≤15 by decide) rfl rfl rfl (by kernel_rfl) rfl sg.out ?_;intro w3 S3 gy h3;have S3:Sec w3 gf (1+i*15) (ndC QR V):=S3;have F3:=F2.replace hi S3 gy h3 R2;have A3:=All.trans A2 (All.trans (Zap (tg:=(8,0)) l2 gy F2.mark).all (Fr.remap (Fr.grown (T:=fun t=>t=(8,0)) l2 gy F2.mark rfl).lim (Zlp hi)));clear S3 S2 R2 F2;refine r.out _ _ ?_;clear r K
   try simp only[sx]
   repeat(refine Zq ?_;simp only[sx])
   refine Zai ?_;go_wp2;go_end0;exact⟨rfl,_,A3,F3⟩
end Fl
end Go.Proofs.YtbcpbnfojfiekaaGreatDoor
