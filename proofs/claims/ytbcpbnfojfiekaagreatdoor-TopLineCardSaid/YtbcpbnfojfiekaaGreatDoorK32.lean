/- A part of what the last text stands on. -/
import Derived.Test.YtbcpbnfojfiekaaGreatDoorK25
import Derived.Test.YtbcpbnfojfiekaaGreatDoorK26
import Derived.Test.YtbcpbnfojfiekaaGreatDoorK31
namespace Go.Proofs.YtbcpbnfojfiekaaGreatDoor
open Go.ChangeShapes Go.WideShapes Go.ChangeAt Go.RowKit Go.Proofs.Tryz Qa Qb Qc
set_option linter.all false
set_option maxHeartbeats 20000000
set_option maxRecDepth 100000
variable{v:Value}{h:View}{sz bs:Nat}{n:Fl.Nd}{α:Type}{xs:List α}{R:View→List Value→α→Prop}
namespace Fl
theorem map_keep(ys:List DW)(r:Int):(ys.filter (Zdq r)).map (·.x)=(ys.map (·.x)).filter fun c=> !decide (c.hdr.round<r):=by
 induction ys with
 |nil=>rfl
 |cons y ys ih =>
  simp only[List.filter_cons,List.map_cons];unfold Zdq at *
  by_cases h:y.x.hdr.round<r<;>simp[h,ih]
theorem Zwo{r:Int}{zs ys:List DW}(p:Lone n.dag)(k:ys.map (·.x)=n.dag)(hp:zs.Perm (ys.filter (Zdq r)))(m:zs.Pairwise fun x y=>leC x.x y.x=true):Zs8 n r=(zs.map (·.x)).take 8:=by
 unfold Zs8
 congr 1
 have g:(zs.map (·.x)).Perm (n.dag.filter fun c=> !decide (c.hdr.round<r)):=by
  rw[←k,←map_keep];exact hp.map _
 unfold sortC;refine List.Perm.eq_of_pairwise (le:=fun a b=>leC a b=true) (fun a b o l j i=>?_) (List.pairwise_mergeSort Zxk Zxl _) (List.pairwise_map.2 m) ((List.mergeSort_perm _ _).trans g.symm);have e:a∈n.dag:=(List.mem_filter.1 ((List.mergeSort_perm _ _).mem_iff.1 o)).1;have f:b∈n.dag:=(List.mem_filter.1 (g.mem_iff.1 l)).1
 have d:a.hdr.round=b.hdr.round∧a.hdr.author=b.hdr.author:=by
  unfold leC at j i
  split at j<;>split at i<;>simp at * <;>omega
 exact Zlq p e f d.2 d.1
theorem Zzq{a:View}(b:Mono R)(r:RSl sz R bs h v xs)(c:VLe h a):RSl sz R bs a v xs:=r.mono b c
theorem RCon.mono(h:View):Mono (RCon h):=fun _ _ _ _ a _=>a
structure KeepN (n m:Nd):Prop where
 me:m.me=n.me
 digs:m.digs=n.digs
 bats:m.bats=n.bats
 out:m.out.length≤400
theorem KeepN.refl(h:n.out.length≤400):KeepN n n:=⟨rfl,rfl,rfl,h⟩
theorem KeepN.send{n m:Nd}(h:KeepN n m)(tw:Int)(x:Msg):KeepN n (send m tw x):=by
 unfold Fl.send;split
 ·exact⟨h.me,h.digs,h.bats,by simp;omega⟩
 ·exact h
theorem Zwp(i tb g off:Nat)(n:Nd)(tw round:Int)(o:Own)(w:World)(hl:Lim o w)(hi:i<5)(hN:NodeAt o w i tb g off n)(X:dagF hD cF n.dag=0)(h4:n.out.length≤400)(h8:n.digs.length≤800)(gc:n.digs.length≤n.bats.length)(h9:n.bats.length≤800) :
 Calls prog 99 #[.pointer (some ⟨g,off,none⟩),.int .i64 tw,.int .i64 round] w fun e w'=>e=.returned (.tuple #[])∧∃o',NFr i tb g off o w o' w'∧NodeAt o' w' i tb g off (serve n tw round):=by
 obtain⟨QR,hh⟩:∃q,Hid (serve n tw round=q):=⟨_,rfl⟩;rw[hh.out];have H4:=Zb h4;have H8:=Zb h8;have HB:=Zb gc;have H9:=Zb h9;clear h4 h8 gc h9;obtain⟨E,h3,hp,g9⟩:=Zo6 X;have s2:Hid (∀c∈n.dag,OkW c):=fun c hc=>okW (g9 c hc)
 have h5:=Zb E;have gr:=Zb hp;clear E h3 hp g9 X;go_enter func99,ntmps99;go_upto_region 1 with fail;refine Zo fun W hk s5 hb=>?_
 have v1:=Zaf hl hb;have l1:=Zam hl hb;have N1:=hN.below hl hb;have F1:NFr i tb g off o w o W:=(NFr.refl hl).below hb;obtain⟨a2,⟨vtx,vba,vdi,vta,vda,vow,vmi,vvo,vtp,vou⟩,S1,R1⟩:=id N1;have s0:=S1.nd0;have s7:=S1.nd7;simp only at s7;have s9:w.heap.size<W.heap.size:=by omega
 have hf:=hk.cell 0;simp at hf;clear s5
 by_cases z:tw=n.me
 ·have gd:(tw==n.me)=true:=by simpa using z
  have Nr:NodeAt o W i tb g off QR:=by
   have:QR=n:=by rw[←hh.out];unfold serve;rw[if_pos z]
   rw[this];exact N1
  clear z;go_wp2
  (try simp only[Exit.inBlock,Exit.then])
  refine bodyPost_ret (results_none rfl _ _ _) rfl ?_;exact⟨rfl,o,F1,Nr⟩
 have gd:(tw==n.me)=false:=by simpa using z
 have HQ:Hid (QR=(Zs8 n round).foldl (Zhn tw) n):=by show _=_;rw[←hh.out];unfold serve;rw[if_neg z]
 clear z;have rda:RCrts (Zas o W) vda n.dag:=R1.da;obtain⟨daA,dac,hn,_⟩:=id rda;have hn:vda=.slice daA n.dag.length dac:=hn;subst hn;go_wp2_with fail;refine(Zvm (Zas o W) _ n.dag W (Zah _ _) rda s2.out).mono ?_;rintro e w2 ⟨v2,rfl,G,ys,H,f,u⟩;have he:ys.length≤400:=by have:=gr.out;rw[←f,List.length_map]at this;exact this
 have h0:=Zb f;have l:=Zb u;have hv:=G.size;have hz:=Zaa G _ _ hf;clear f u rda;go_wp2_with fail;refine(Zsr v2 ys W w2 W.heap.size w.heap.size round H (fun y hy=>RCrt.mono _ _ _ _ (l.out y hy) (Zah _ _)) G hz s9 hv he (Za _)).mono ?_;rintro e w3 ⟨v3,rfl,gf,I⟩;have V:=G.trans gf;have hg:(ys.filter (Zdq round)).length≤400:=Zg (List.length_filter_le _ _) he;clear H hz;go_wp2_with fail;refine(Zwl (Zas o W) v3 (ys.filter (Zdq round)) W w3 W.heap.size I (fun y hy=>l.out y (List.mem_filter.1 hy).1) V hg (Za _)).mono ?_;rintro e w4 ⟨rfl,P,zs,r,g1,T⟩;have g5:=Zb (Zwo h5.out h0.out r g1);have gh:zs.length≤400:=by rw[r.length_eq];exact hg
 clear I r g1 hg V G gf hv he h0 l;have v4:=Zaf l1 P;have l4:=Zam l1 P;have N4:=N1.below l1 P;have F4:=F1.below P
 have T:RSl 5 (RCon (Zas o w4)) 88 (Zas o w4) v3 (zs.map (·.x)):=by
  have h1:=Zzq (RCon.mono _) T (Zbz l1);exact RSl.weak (R':=RCon (Zas o w4)) (fun h cs x hx=>RCrt.mono _ _ _ _ hx v4) h1
 obtain⟨L,h6⟩:∃L,Hid (zs.map (·.x)=L):=⟨_,rfl⟩;rw[h6.out]at T g5;have a3:L.length≤400:=by rw[←h6.out,List.length_map];exact gh
 clear h6 gh;obtain⟨A,c,rfl,h7⟩:=id T;obtain⟨q1,q2,q3,q4⟩:=h7;have gy:=Zb q4;clear q3 q4 S1 R1 N1 F1 s0 s7 hf v1 gd;obtain⟨M,hM⟩:∃M,Hid ((L.take 8).length=M):=⟨_,rfl⟩
 have g0:M≤8∧M≤L.length∧(M=8∨M=L.length):=by
  have:=hM.out;simp at this;omega
 have sn:min (L.length:Int) 8=(M:Int):=by omega
 have si:max (M:Int) 0=(M:Int):=by omega
 have HM:=Zb g0;have a5:M≤c:=by omega
 have sc:(M:Int)≤(c:Int):=by omega
 have a4:(0:Int)≤(M:Int):=by omega
 clear g0;go_wp2_with fail
 go_loopw [8,10,11,35,43] (fun _ _ _ j _ wr=>∃(k:Nat) (o':Own) (m:Nd),k≤M∧j=.int .i64 k∧Hid (m=(L.take k).foldl (Zhn tw) n)∧NFr i tb g off o w4 o' wr∧NodeAt o' wr i tb g off m∧KeepN n m) (fun _ _ _ j _ _=>M-(intOf j).toNat)
 case atStart=>exact⟨0,o,n,Zf _,rfl,rfl,NFr.refl l4,N4,KeepN.refl H4.out⟩
 case round =>
  obtain⟨k,o1,m,a7,rfl,hm,F1,N1,K1⟩:=hrel;have a0:=F1.fr.size
  by_cases sp:k<M
  ·have ho:(k:Int)<(M:Int):=by omega
   have g7:k<L.length:=by have:=HM.out;omega
   obtain⟨b0,o0,gl,gg⟩:=gy.out.2 (by omega);subst gl;obtain⟨cs,-,b,hR⟩:=gg k g7;obtain⟨ub,up,uv,rfl,rb,rp,rv⟩:=hR;have vv:=F1.fr.view;have C:VLe (Zas o w4) wr.cell?:=vv.trans (Zah _ _);have c0:=C _ _ (b 0 (by decide));have c1:=C _ _ (b 1 (by decide));have c2:=C _ _ (b 2 (by decide));have c3:=C _ _ (b 3 (by decide));have c4:=C _ _ (b 4 (by decide));simp at c0 c1 c2 c3 c4;have rb:=rb.mono Ze vv;have rp:=rp.mono Ze vv;have rv:=rv.mono vv;obtain⟨bA,bc,rfl,s3⟩:=id rb;obtain⟨pA,pc,rfl,gp⟩:=id rp;obtain⟨eA,ec,rfl,gn⟩:=id rv
   have N:Hid ((L.take (k+1)).foldl (Zhn tw) n=Zhn tw ((L.take k).foldl (Zhn tw) n) L[k]):=by
    show _=_;rw[Zn g7,List.foldl_append];rfl
   clear s3 gp gn b gg vv C;generalize L[k]=x at *;have l1':=F1.fr.lim;go_upto_region 8 with fail;refine Zo fun W2 B sa S=>?_
   have N2:=N1.below l1' S;have F2:=F1.below S;have l2:=Zam l1' S;have vX:=Zaf l1' S;have p:o1 wr.heap.size=none:=l1'.none _ (Za _);have rbX:=rb.mono Ze vX;have rpX:=rp.mono Ze vX;have rvX:=rv.mono vX;have x2:=B.cell 2;simp at x2;clear sa N1 F1 l1' c0 c1 c2 c3 c4 vX rb rp rv;go_wp2_with fail;obtain⟨wo,s1⟩:∃wo:World,wo=wr:=⟨_,rfl⟩;subst s1;have sf:x.hdr.batches.length*24≤140737488355328:=(RDigs.at rbX).2.2.1
   go_loopw [10,11,43] (fun _ _ j wr=>∃(q:Nat) (o':Own) (m':Nd),q≤x.hdr.batches.length∧j=.int .i64 q∧Hid (m'=(x.hdr.batches.take q).foldl (sendB tw) m)∧NFr i tb g off o w4 o' wr∧NodeAt o' wr i tb g off m'∧KeepN n m'∧Blk wr wo.heap.size 79 #[.int .i64 x.hdr.author,.int .i64 x.hdr.round,.slice bA x.hdr.batches.length bc,.slice pA x.hdr.parents.length pc,.slice eA x.voters.length ec]∧o' wo.heap.size=none∧VLe (Zas o1 W2) (Zas o' wr)) (fun _ _ j _=>x.hdr.batches.length-(intOf j).toNat)
   case atStart=>exact⟨0,o1,m,Zf _,rfl,rfl,F2,N2,K1,B,p,fun a v h=>h⟩
   case round =>
    clear N2 F2 l2 B p x2;obtain⟨q,o2,m2,hq,rfl,Q,F2,N2,K2,B,p,O⟩:=hrel;have l2:=F2.fr.lim;have rbY:=rbX.mono Ze O;have rpY:=rpX.mono Ze O;have rvY:=rvX.mono O
    by_cases h2:q<x.hdr.batches.length
    ·have hj:(q:Int)<x.hdr.batches.length:=by omega
     obtain⟨-,-,-,g4⟩:=RDigs.at rbY;obtain⟨b3,o3,d3,s6,t0,r0⟩:=g4 q h2;subst s6;have t0':=Zah _ _ _ _ t0;have R:=Zb (show(x.hdr.batches.take (q+1)).foldl (sendB tw) m=sendB tw ((x.hdr.batches.take q).foldl (sendB tw) m) x.hdr.batches[q] by rw[Zn h2,List.foldl_append];rfl);obtain⟨xA,xc,rfl,gm⟩:=id r0;clear gm g4 t0;generalize x.hdr.batches[q]=D at *;go_wp2_with fail;refine(Zg9 i tb g off m2 _ D o2 _ N2 (r0.mono (Zah _ _)) (by rw[K2.digs];exact H8.out)).mono ?_;rintro e w5 ⟨rfl,K⟩;have N5:=N2.below l2 K;have F5:=F2.below K;have l5:=Zam l2 K;have v5:=Zaf l2 K;have U:=B.kept K;have Y:=O.trans v5
     rcases Zfy (·==D) m2.digs with ⟨p1,-⟩|⟨a,ha,p1,-,-⟩
     ·rw[show held m2 D= -1 from p1]
      have J:Hid (m2=(x.hdr.batches.take (q+1)).foldl (sendB tw) m):=by
       show _=_;rw[R.out,←Q.out];unfold sendB;rw[show held m2 D= -1 from p1,if_neg (by omega)]
      clear p1 R N2 F2 B l2 rbY rpY rvY t0' r0;go_wp2;go_roundw
      case rel=>exact⟨q+1,o2,m2,by omega,by go_num,J,F5,N5,K2,U,p,Y⟩
      case measure=>simp[intOf]<;>omega
     ·rw[show held m2 D=(a:Int) from p1];have hr:a<m2.digs.length:=ha;have g2:a<m2.bats.length:=by have:=HB.out;rw[K2.digs]at hr;rw[K2.bats];omega
      have J:Hid ((x.hdr.batches.take (q+1)).foldl (sendB tw) m=send m2 tw (batM m2.bats[a])):=by
       show _=_;rw[R.out,←Q.out];unfold sendB;rw[show held m2 D=(a:Int) from p1,if_pos (by omega)];simp[g2]
      have sm:m2.bats.length≤800:=by rw[K2.bats];exact H9.out
      clear p1 R N2 F2 B l2 rbY rpY rvY t0' r0 ha hr;obtain⟨sh,⟨ztx,zba,zdi,zta,zda,zow,zmi,zvo,ztp,zou⟩,S5,R5⟩:=id N5;obtain⟨yA,yc,F⟩:=R5.ba.form;have F:zba=.slice yA m2.bats.length yc:=F;subst F;have s4:=S5.nd4;simp only at s4;have gx:=R5.ba.ownSl.reads (bs:=40) (fun _ _ _ _ hx _=>hx) (by omega);obtain⟨A9,c9,s8,sq,-,-,-,gz⟩:=gx;injection s8 with he1 _ he3;subst he1 he3;obtain⟨bb,bo,gq,Z⟩:=gz (by omega);subst gq;obtain⟨cs9,-,d,vt,rfl,rt,ga⟩:=Z a g2;have y0:w5.cell? ⟨bb,bo+a*3,none⟩=some (.int .i64 m2.bats[a].author):=d 0 (by decide);have y1:w5.cell? ⟨bb,bo+a*3+1,none⟩=some (.int .i64 m2.bats[a].number):=d 1 (by decide);have y2:w5.cell? ⟨bb,bo+a*3+2,none⟩=some vt:=d 2 (by decide);obtain⟨tA,tc,rfl,gu⟩:=id rt;have sb:(a:Int)<m2.bats.length:=by omega
      clear gu d Z S5 R5;generalize m2.bats[a]=bt at *;go_wp2_with fail;refine(Zfa i tb g off m2 tw (batM bt) _ _ _ _ _ _ _ o2 _ l5 hi N5 (Zko rt) ga K2.out).mono ?_;rintro e w6 ⟨rfl,o6,F56,N6⟩;have F6:=F5.trans F56;have gw:=Za3 U F56.fr p;have hw:o6 wo.heap.size=none:=((F56.fr.keep wo.heap.size U.lt (fun t ht=>by rw[p]at ht;cases ht)).1).trans p;have g8:=Y.trans F56.fr.view;have K6:=K2.send tw (batM bt);clear N5 F5 U s4 y0 y1 y2 rt ga;go_wp2;go_roundw
      case rel=>exact⟨q+1,o6,_,by omega,by go_num,J.out.symm,F6,N6,K6,gw,hw,g8⟩
      case measure=>simp[intOf]<;>omega
    ·have gb:q=x.hdr.batches.length:=by omega
     have J:Hid ((L.take (k+1)).foldl (Zhn tw) n=send m2 tw (prfM x)):=by
      show _=_;rw[N.out,←hm.out];unfold Zhn;rw[Q.out,gb,List.take_length]
     have hj:¬(q:Int)<x.hdr.batches.length:=by omega
     have x0:=B.cell 0;have x1:=B.cell 1;have x2:=B.cell 2;have x3:=B.cell 3;have x4:=B.cell 4;simp at x0 x1 x2 x3 x4;clear gb Q N;go_wp2_with fail;refine(Zfa i tb g off m2 tw (prfM x) _ _ _ _ _ _ _ o2 _ l2 hi N2 (Zop rbY rpY rvY) (fun s hs=>by cases hs) K2.out).mono ?_;rintro e w6 ⟨rfl,o6,F26,N6⟩;have F6:=F2.trans F26;have K6:=K2.send tw (prfM x);clear N2 F2 x0 x1 x2 x3 x4 rbY rpY rvY B;go_wp2;go_roundw
     case rel=>exact⟨k+1,o6,_,by omega,by go_num,J.out.symm,F6,N6,K6⟩
     case measure=>simp[intOf]<;>omega
  ·have g3:k=M:=by omega
   have g6:NodeAt o1 wr i tb g off QR:=by
    rw[HQ.out,g5.out]
    have:L.take k=L.take 8:=by
     rw[g3,←hM.out];simp
    rw[←this,←hm.out];exact N1
   have ho:¬(k:Int)<(M:Int):=by omega
   clear g3;go_wp2;go_end0;exact⟨rfl,o1,F4.trans F1,g6⟩
theorem Zqh(i tb g off gn gi a:Nat)(n:Nd)(d:Value)(x:List UInt8)(o:Own)(w:World)(hN:NodeAt o w i tb g off n)(t:w.cell? ⟨gn,0,none⟩=some (.pointer (some ⟨g,off,none⟩)))(z:w.cell? ⟨gi,0,none⟩=some (.int .i64 (a:Int)))(B:a<n.digs.length)(hd:Zan w.cell? d x)(D:n.digs.length≤800) :
 Calls prog 228 (#[d]++#[.pointer (some ⟨gn,0,none⟩),.pointer (some ⟨gi,0,none⟩)]) w fun e w'=>e=.returned (.bool (x==n.digs[a]))∧Below w.heap.size w w':=by
 obtain⟨A,c,rfl,p⟩:=id hd;clear p;obtain⟨v,⟨vtx,vba,vdi,vta,vda,vow,vmi,vvo,vtp,vou⟩,S1,R1⟩:=id hN;have s5:=S1.nd5;simp only at s5;have rdi:RDigs w.cell? vdi n.digs:=R1.di.reads (bs:=24) Ze (by omega);obtain⟨dA,dc,rfl,p⟩:=id rdi;clear p;obtain⟨-,u,-,j⟩:=RDigs.at rdi;obtain⟨b0,o0,d0,k,t0,r0⟩:=j a B;subst k;obtain⟨xA,xc,rfl,m⟩:=id r0;have C:(a:Int)<n.digs.length:=by omega
 show Calls prog 228 #[.slice A x.length c,.pointer (some ⟨gn,0,none⟩),.pointer (some ⟨gi,0,none⟩)] w _;clear m j rdi S1 R1;generalize n.digs[a]=y at *;obtain⟨Q,s⟩:∃q,Hid ((x==y)=q):=⟨_,rfl⟩;rw[s.out];go_enter func228,ntmps228;go_upto_region 1 with fail;refine Zr [9] (.q 0 (.q 1 (.q 2 (.q 3 (.q 4 (.q 5 (.q 6 (.q 7 (.l 8 (.qc 9 .nil)))))))))) fun W3 b=>?_
 repeat((first|refine pq (h:=⟨_,fun w' f=>by(have z1:=Zaa f _ _ t;have z2:=Zaa f _ _ z;have z3:=Zaa f _ _ s5;have z4:=Zaa f _ _ t0;go_simp;exact rfl),?_⟩)|refine Zq ?_);simp only[sx])
 refine Zd fun K r=>?_
 try simp only[sy]
 go_simp;refine(Zb7 _ _ x y _ (hd.mono (Zaa b)) (r0.mono (Zaa b))).mono ?_;rintro e w4 ⟨rfl,rfl⟩;rw[s.out];refine r.out _ _ (b) fun f=>?_
 clear r K
 try simp only[sx]
 repeat(refine Zq ?_;simp only[sx])
 refine Zai ?_;go_wp2;go_ret;exact⟨rfl,b⟩
theorem Zr4(i tb g off gn gi a:Nat)(n:Nd)(cs:List Value)(x:Crt)(o:Own)(w:World)(D:Lim o w)(hN:NodeAt o w i tb g off n)(A:w.cell? ⟨gn,0,none⟩=some (.pointer (some ⟨g,off,none⟩)))(z:w.cell? ⟨gi,0,none⟩=some (.int .i64 (a:Int)))(I:a<n.digs.length)(H:RCrt w.cell? cs x)(F:n.digs.length≤800) :
 Calls prog 227 (#[.agg cs.toArray]++#[.pointer (some ⟨gn,0,none⟩),.pointer (some ⟨gi,0,none⟩)]) w fun e w'=>e=.returned (.bool (x.hdr.author==n.me&&x.hdr.batches.any (·==n.digs[a])))∧Below w.heap.size w w':=by
 obtain⟨ub,up,uv,rfl,rb,rp,rv⟩:=H;obtain⟨bA,bc,rfl,t⟩:=id rb;obtain⟨pA,pc,rfl,u⟩:=id rp;obtain⟨eA,ec,rfl,v⟩:=id rv;clear t u v rp rv;obtain⟨s,⟨vtx,vba,vdi,vta,vda,vow,vmi,vvo,vtp,vou⟩,S1,R1⟩:=id hN;have s0:=S1.nd0;have eg:=enters_of func228 (by kernel_rfl) rfl;show Calls prog 227 #[.agg #[.int .i64 x.hdr.author,.int .i64 x.hdr.round,.slice bA x.hdr.batches.length bc,.slice pA x.hdr.parents.length pc,.slice eA x.voters.length ec],.pointer (some ⟨gn,0,none⟩),.pointer (some ⟨gi,0,none⟩)] w _;obtain⟨Q,E⟩:∃q,Hid (x.hdr.batches.any (·==n.digs[a])=q):=⟨_,Zb rfl⟩;rw[E.out];clear S1 R1 s;go_enter func227,ntmps227;go_upto_region 1 with fail;refine Zo fun W B m f=>?_
 clear m;have z1:=Zaa f _ _ A;have z2:=Zaa f _ _ z;have z3:=Zaa f _ _ s0;have rb1:=rb.mono Ze (Zaa f);have l1:=Zam D f;have N1:=hN.below D f;clear A z s0 rb
 by_cases j:x.hdr.author=n.me
 ·have k:(x.hdr.author==n.me)=true:=by simpa using j
  clear j;refine Zr [15] (.q 0 (.q 1 (.q 2 (.q 3 (.q 4 (.q 5 (.q 6 (.q 7 (.q 8 (.q 9 (.q 10 (.q 11 (.q 12 (.l 13 (.q 14 (.qc 15 .nil)))))))))))))))) fun W3 b=>?_
  repeat((first|refine pq (h:=⟨_,fun w' c=>by(have y:=B.kept c;have y0:=y.cell 0;have y2:=y.cell 2;have x1:=Zaa c _ _ z1;have x2:=Zaa c _ _ z2;have x3:=Zaa c _ _ z3;simp at y0 y2;go_simp;exact rfl),?_⟩)|refine Zq ?_);simp only[sx])
  refine Zd fun K C=>?_
  try simp only[sy]
  go_simp;refine(Zlw 228 #[.pointer (some ⟨gn,0,none⟩),.pointer (some ⟨gi,0,none⟩)] (·==n.digs[a]) eg _ x.hdr.batches _ (rb1.mono Ze (Zaa b)) (fun W4 d y p G=>Zqh i tb g off gn gi a n d y o W4 ((N1.below l1 b).below (Zam l1 b) p) (Zaa p _ _ (Zaa b _ _ z1)) (Zaa p _ _ (Zaa b _ _ z2)) I G F)).mono ?_;rintro e w4 ⟨rfl,r⟩;rw[E.out];refine C.out _ _ (b.trans (r.mono b.size)) fun c=>?_
  clear C K
  try simp only[sx]
  repeat(refine Zq ?_;simp only[sx])
  refine Zai ?_;go_wp2;go_ret;exact⟨Zao (by simp[k]),f.trans (c.mono (by have:=f.size;omega))⟩
 ·have k:(x.hdr.author==n.me)=false:=by simpa using j
  clear j;refine Zr [15] (.q 0 (.q 1 (.q 2 (.q 3 (.q 4 (.q 5 (.q 6 (.q 7 (.q 8 (.q 9 (.q 10 (.q 11 (.q 12 (.l 13 (.q 14 (.qc 15 .nil)))))))))))))))) fun W3 b=>?_
  repeat((first|refine pq (h:=⟨_,fun w' c=>by(have y:=B.kept c;have y0:=y.cell 0;have y2:=y.cell 2;have x1:=Zaa c _ _ z1;have x2:=Zaa c _ _ z2;have x3:=Zaa c _ _ z3;simp at y0 y2;go_simp;exact rfl),?_⟩)|refine Zq ?_);simp only[sx])
  refine Zai ?_;go_wp2;go_ret;exact⟨Zao (by simp[k]),f.trans (b.mono (by have:=f.size;omega))⟩
end Fl
end Go.Proofs.YtbcpbnfojfiekaaGreatDoor
