/- A part of what the last text stands on. -/
import Derived.Test.YtbcpbnfojfiekaaGreatDoorK37
namespace Go.Proofs.YtbcpbnfojfiekaaGreatDoor
open Go.ChangeShapes Go.WideShapes Go.ChangeAt Go.RowKit Go.Proofs.Tryz Qa Qb Qc
set_option linter.all false
set_option maxHeartbeats 20000000
set_option maxRecDepth 100000
namespace Fl
theorem Zwh(me:Int)(p:List Sign×List Msg)(m:Msg)(h:p.2.length≤400):(Zc8 me p m).1.length≤p.1.length+1∧(Zc8 me p m).2.length≤400:=by
 have a:∀s,(addL p.1 s).length≤p.1.length+1:=fun s=>by
  unfold addL;split
  ·simp
  ·split
   ·omega
   ·simp
 unfold Zc8;refine⟨?_,?_⟩
 ·simp only;split
  ·exact a _
  ·omega
 ·simp only;split
  ·simp;omega
  ·exact h
theorem Zzl(i gf:Nat)(f:Ft)(o:Own)(w:World)(hi:i<4)(hF:FtAt o w gf f)(hT:Tabs (Zas o w))(Y:Zbc (Zav f i).tl (Zav f i).ty=true)(D:(Zav f i).out.length≤400)(hg:f.away.length≤400)(hh:f.signs.length≤1000000000) :
 Calls prog 105 #[.pointer (some ⟨gf,0,none⟩),.pointer (some ⟨gf,1+i*15,none⟩)] w fun e w'=>e=.returned (.tuple #[])∧∃o',Fr All o w o' w'∧FtAt o' w' gf (sync f i):=by
 obtain⟨n,hn⟩:∃n,Hid (Zav f i=n):=⟨_,rfl⟩;obtain⟨QR,hc⟩:∃q,Hid (sync f i=q):=⟨_,rfl⟩;have N0:=hF.node i hi;rw[hn.out]at N0 Y D;rw[hc.out];have gn:=Zb hh;have g8:=Zb hg;have S:=Zb D;have O:=Zb Y;clear hh hg D Y;obtain⟨off,r⟩:∃off,Hid (1+i*15=off):=⟨_,rfl⟩;rw[r.out]at N0⊢;obtain⟨h5,⟨vtx,vba,vdi,vta,vda,vow,vmi,vvo,vtp,vou⟩,S0,R0⟩:=id N0;have l0:=hF.lim;have s11:=S0.nd11;have s12:=S0.nd12;have s13:=S0.nd13;simp only at s11 s12 s13;have rtp:Zan w.cell? vtp n.tl:=R0.tp.mono (Zah _ _);obtain⟨tpA,tpc,h9,_⟩:=id rtp;have h9:vtp=.slice tpA n.tl.length tpc:=h9;subst h9;clear S0 R0 N0;go_enter func105,ntmps105;go_wp2_with fail;refine(Zzk n.ty _ n.tl w rtp O.out).mono ?_;rintro e w1 ⟨d,rfl,R,od⟩;obtain⟨dA,dc,rfl⟩:=od.form;have F1:=hF.below R;have l1:=F1.lim;have rd:=(od.from_ (bs:=1) (by have:=O.out;simp[Zbc]at this;omega) (Za _)).mono (Zbz l0);have N1:=F1.node i hi;rw[hn.out,r.out]at N1;obtain⟨-,⟨ytx,yba,ydi,yta,yda,yow,ymi,yvo,ytp,you⟩,S1,R1⟩:=id N1;go_wp2_with (refine Sec.store S1 (i:=11) [.slice dA n.tl.length dc,.int .i64 n.tl.length] (show 11+2≤15 by decide) rfl rfl rfl rfl (by kernel_rfl) rfl rfl ?_);intro w2 S2 h7 h2;have f2:=Zap l1 h7 h5;have R2:=(R1.fr f2 (fun k e=>by injection e;omega)).setTp (y:=(n.tl.length:Int)) (rd.mono f2.view);have S2:=S2.putTp (xs:=n.tl);have rou:Row o (i,5) 19 RMsgZ 90 w2 you n.out:=R2.ou;have s13':=S2.nd13;simp only at s13';obtain⟨ouA,ouc,I⟩:=rou.form;have I:you=.slice ouA n.out.length ouc:=I;subst I;have K2:NFr i 0 gf off o w1 o w2:=(NFr.refl l1).store h5 h7 h2 (show 11+2≤15 by decide);obtain⟨n1,Q⟩:∃n1:Nd,Hid (n1={ n with tl:=n.tl,ty:=(n.tl.length:Int) }):=⟨_,rfl⟩;have N2:NodeAt o w2 i 0 gf off n1:=by rw[Q.out];exact⟨h5,_,S2,R2⟩
 rw[←r.out]at K2 N2;have F2:=F1.step hi K2 N2;have A2:Fr All o w o w2:=All.trans (Fr.of_below l0 R) K2.fr.all;have T2:=(hT.mono (Zaf l0 R)).mono K2.fr.view;have gs:Hid (n1.out=n.out):=by show _=_;rw[Q.out]
 have U:Hid (n1.me=n.me):=by show _=_;rw[Q.out]
 obtain⟨G,hG⟩:∃G,Hid (Za4 f i n1=G):=⟨_,rfl⟩;have hb:Hid (Zav G i=n1):=by show _=_;rw[←hG.out,Zgc hF.len hi hi,if_pos rfl]
 have gw:G.nodes.length=4:=by rw[←hG.out,Zro];exact hF.len
 have gg:Hid (G.signs=f.signs):=by show _=_;rw[←hG.out];rfl
 have g2:Hid (G.away=f.away):=by show _=_;rw[←hG.out];rfl
 rw[hG.out]at F2;have F2:FtAt o w2 gf {G with signs:=f.signs,away:=f.away }:=F2.congr rfl rfl gg.out.symm g2.out.symm rfl
 have HR:Hid (∀p,p=n.out.foldl (Zc8 n.me) (f.signs,f.away)→QR={ Za4 G i {n1 with out:=[] } with signs:=p.1,away:=p.2 }):=by
  intro p hp;rw[←hc.out];unfold sync;simp only;rw[hn.out,←hp]
  have e1:syncN n={ n1 with out:=[] }:=by
   rw[Q.out];unfold syncN;rw[O.out];rfl
  rw[e1,←hG.out];unfold Za4;simp
 clear hG R od rd rtp F1 l1 N1 S1 R1 S2 R2 h7 h2 f2 K2 N2 s11 s12 s13 hc O;go_wp2_with fail
 go_loopw [5,6,7,24,30,62] (fun _ _ _ j _ _ wr=>∃(k:Nat) (o':Own) (p:List Sign×List Msg),k≤n.out.length∧j=.int .i64 k∧Hid (p=(n.out.take k).foldl (Zc8 n.me) (f.signs,f.away))∧Fr All o w o' wr∧FtAt o' wr gf {G with signs:=p.1,away:=p.2 }∧Row o' (i,5) 19 RMsgZ 90 wr (.slice ouA n.out.length ouc) n.out∧Tabs (Zas o' wr)∧p.1.length≤1000000000+k∧p.2.length≤400) (fun _ _ _ j _ _ _=>n.out.length-(intOf j).toNat)
 case atStart=>exact⟨0,o,(f.signs,f.away),Zf _,rfl,rfl,A2,F2,rou,T2,Zg gn.out (Za _),g8.out⟩
 case round =>
  obtain⟨k,o1,p,s0,rfl,hp,A1,F1,rou1,T1,s1,hw⟩:=hrel;have g1:=S.out
  by_cases he:k<n.out.length
  ·have hf:(k:Int)<n.out.length:=by omega
   have gm:=rou1.ownSl.reads (bs:=264) (fun _ _ _ _ hx _=>hx) (by have:=S.out;omega);obtain⟨A9,c9,gp,-,-,-,-,hm⟩:=gm;injection gp with he1 _ he3;subst he1 he3;obtain⟨bb,bo,hA,hz⟩:=hm (by omega);subst hA;obtain⟨cs9,-,F,⟨vt,vb,vp,vd,cb,cp,cv,rfl,rm⟩,gi⟩:=hz k he;have N:=Zb (show(n.out.take (k+1)).foldl (Zc8 n.me) (f.signs,f.away)=Zc8 n.me p n.out[k] by rw[Zn he,List.foldl_append,←hp.out];rfl);have gu:=Zwh n.me p n.out[k] hw;generalize n.out[k]=m at *;have rm0:=rm;obtain⟨⟨tA,tc,rfl⟩,⟨bA,bc,rfl⟩,⟨pA,pc,rfl⟩,⟨dA',dc',rfl⟩,⟨cA,cc,rfl⟩,⟨qA,qc,rfl⟩,⟨vA,vc,rfl⟩⟩:=rm0.forms;clear rm0 hm hz
   have hv:∀j v,(#[.int .i64 m.src,.int .i64 m.dst,.int .i64 m.kind,.int .i64 m.bat.author,.int .i64 m.bat.number,.slice tA m.bat.txs.length tc,.int .i64 m.hdr.author,.int .i64 m.hdr.round,.slice bA m.hdr.batches.length bc,.slice pA m.hdr.parents.length pc,.int .i64 m.slt.author,.int .i64 m.slt.round,.slice dA' m.slt.digest.length dc',.int .i64 m.crt.hdr.author,.int .i64 m.crt.hdr.round,.slice cA m.crt.hdr.batches.length cc,.slice qA m.crt.hdr.parents.length qc,.slice vA m.crt.voters.length vc,.int .i64 m.round]:Array Value).toList[j]?=some v→wr.cell? ((⟨bb,bo+k*19,none⟩:Addr).add j)=some v:=fun j v hj=>by
    have g4:j<19:=(List.getElem?_eq_some_iff.1 hj).1;rw[Zbs];exact(F j g4).trans hj
   have ho:Hid (((#[.int .i64 m.src,.int .i64 m.dst,.int .i64 m.kind,.int .i64 m.bat.author,.int .i64 m.bat.number,.slice tA m.bat.txs.length tc,.int .i64 m.hdr.author,.int .i64 m.hdr.round,.slice bA m.hdr.batches.length bc,.slice pA m.hdr.parents.length pc,.int .i64 m.slt.author,.int .i64 m.slt.round,.slice dA' m.slt.digest.length dc',.int .i64 m.crt.hdr.author,.int .i64 m.crt.hdr.round,.slice cA m.crt.hdr.batches.length cc,.slice qA m.crt.hdr.parents.length qc,.slice vA m.crt.voters.length vc,.int .i64 m.round]:Array Value).toList.all fun u=>u.oneCell')=true):=rfl;clear F;have hn:=Blk.new wr 90 #[.int .i64 0,.int .i64 0,.int .i64 0,.int .i64 0,.int .i64 0,.slice none 0 0,.int .i64 0,.int .i64 0,.slice none 0 0,.slice none 0 0,.int .i64 0,.int .i64 0,.slice none 0 0,.int .i64 0,.int .i64 0,.slice none 0 0,.slice none 0 0,.slice none 0 0,.int .i64 0];have X:=Zac wr (.cells #[.int .i64 0,.int .i64 0,.int .i64 0,.int .i64 0,.int .i64 0,.slice none 0 0,.int .i64 0,.int .i64 0,.slice none 0 0,.slice none 0 0,.int .i64 0,.int .i64 0,.slice none 0 0,.int .i64 0,.int .i64 0,.slice none 0 0,.slice none 0 0,.slice none 0 0,.int .i64 0] 90);go_wp2_with (first|(refine Zbe (n:=19) (#[.int .i64 m.src,.int .i64 m.dst,.int .i64 m.kind,.int .i64 m.bat.author,.int .i64 m.bat.number,.slice tA m.bat.txs.length tc,.int .i64 m.hdr.author,.int .i64 m.hdr.round,.slice bA m.hdr.batches.length bc,.slice pA m.hdr.parents.length pc,.int .i64 m.slt.author,.int .i64 m.slt.round,.slice dA' m.slt.digest.length dc',.int .i64 m.crt.hdr.author,.int .i64 m.crt.hdr.round,.slice cA m.crt.hdr.batches.length cc,.slice qA m.crt.hdr.parents.length qc,.slice vA m.crt.voters.length vc,.int .i64 m.round]:Array Value).toList rfl rfl rfl rfl (by kernel_rfl) (by kernel_rfl) (by kernel_rfl) hv ?_)|(refine Zj 19 hn ?_));intro W2 M hl;have P:Below wr.heap.size wr W2:=Zab X X.size hl (by intro k e;injection e;omega);clear hn X hl;go_upto_region 4 with fail;have l1:=F1.lim;have F2':=F1.below P;have l2:=F2'.lim
   have A2':=All.trans A1 (Fr.of_below (T:=All) l1 P);have v2:=Zaf l1 P;have rm2:=rm.mono v2;have T2':=T1.mono v2;have rou2:=rou1.fr RMsgZ.mono (Fr.of_below (T:=fun _=>False) l1 P) (fun h=>h);have C:=l1.none wr.heap.size (Za _);obtain⟨q,B⟩:∃q,Hid ((Zc8 n.me p m).1=q):=⟨_,rfl⟩;have hk:=B;clear hv A1 F1 rou1 T1 rm;have e2:=M.cell 2;simp at e2;obtain⟨K,g⟩:∃K,Hid (m.kind=K):=⟨_,rfl⟩;rw[g.out]at e2;have A:Hid (q=match Znk n.me m with|some s=>addL p.1 s|none=>p.1):=by show _=_;rw[←hk.out];rfl
   clear hk
   go_upto_block 2 with fail
   go_cut [6,7,30,62] (fun _ _ _ _ w'=>∃o',Fr All o w o' w'∧FtAt o' w' gf {G with signs:=q,away:=p.2 }∧Row o' (i,5) 19 RMsgZ 90 w' (.slice (some ⟨bb,bo,none⟩) n.out.length ouc) n.out∧Blk w' wr.heap.size 90 #[.int .i64 m.src,.int .i64 m.dst,.int .i64 m.kind,.int .i64 m.bat.author,.int .i64 m.bat.number,.slice tA m.bat.txs.length tc,.int .i64 m.hdr.author,.int .i64 m.hdr.round,.slice bA m.hdr.batches.length bc,.slice pA m.hdr.parents.length pc,.int .i64 m.slt.author,.int .i64 m.slt.round,.slice dA' m.slt.digest.length dc',.int .i64 m.crt.hdr.author,.int .i64 m.crt.hdr.round,.slice cA m.crt.hdr.batches.length cc,.slice qA m.crt.hdr.parents.length qc,.slice vA m.crt.voters.length vc,.int .i64 m.round]∧o' wr.heap.size=none∧VLe (Zas o1 W2) (Zas o' w'))
   case first =>
    by_cases k2:K=2
    ·have kb:(K==2)=true:=by simpa using k2
     have hq:Hid (q=addL p.1 ⟨n.me,⟨m.hdr.author,m.hdr.round,hdR m.hdr⟩⟩):=by
      show _=_;rw[A.out];unfold Znk;rw[if_pos (by rw[g.out];exact k2)]
     have c6:=M.cell 6;have c7:=M.cell 7;have c8:=M.cell 8;have c9:=M.cell 9;simp at c6 c7 c8 c9;clear k2 A;go_wp2_with fail;refine(Zby m.hdr.author m.hdr.round _ _ m.hdr.batches m.hdr.parents W2 (rm2.bats.mono Ze (Zah _ _)) (rm2.pars.mono Ze (Zah _ _)) (T2'.mono (Zah _ _))).mono ?_;rintro e W5 ⟨d5,rfl,z,rd5⟩;obtain⟨d5A,d5c,rfl,gl⟩:=id rd5;clear gl;have L:=M.kept z;have F2':=F2'.below z;have l5:=F2'.lim;have A5:=All.trans A2' (Fr.of_below (T:=All) l2 z);have rou5:=rou2.fr RMsgZ.mono (Fr.of_below (T:=fun _=>False) l2 z) (fun h=>h);have rd5':Zan W5.cell? _ (hdR m.hdr):=rd5.mono (View.from_le _ _);go_upto_region 7 with fail;obtain⟨_,_,vs,g61,rs⟩:=id F2'.sg;have z61:=g61.cell (j:=0) (show 0<1 by decide);simp at z61;obtain⟨_,v5,S5,_⟩:=id (F2'.node i hi);have z0:=S5.nd0;rw[show Zav {G with signs:=p.1,away:=p.2 } i=n1 from hb.out,U.out,r.out]at z0;obtain⟨vsA,vsc,rfl,H⟩:=id rs;clear S5 H;refine Zt (fun w'=>Below W5.heap.size W5 w') (fun w'=>Below W5.heap.size W5 w') [21,24] (.q 0 (.q 1 (.q 2 (.q 3 (.q 4 (.q 5 (.q 6 (.q 7 (.q 8 (.q 9 (.q 10 (.q 11 (.q 12 (.q 13 (.q 14 (.q 15 (.q 16 (.q 17 (.l 18 (.q 19 (.q 20 (.qc 21 (.q 22 (.q 23 (.l 24 .nil))))))))))))))))))))))))) ?_ ?_
     ·exact⟨Zad _,Zad _⟩
     intro W6 b t
     repeat((first|refine pq (h:=⟨_,fun w' t=>by(have x:=L.kept t;have y0:=Zaa t _ _ z0;have y1:=Zaa t _ _ z61;have c6:=x.cell 6;have c7:=x.cell 7;have c10:=x.cell 10;have c11:=x.cell 11;have c12:=x.cell 12;simp at c6 c7 c10 c11 c12;go_simp;exact rfl),?_⟩)|refine Zq ?_);simp only[sx])
     refine Zd fun K g=>?_
     try simp only[sy]
     go_simp;refine(Zj1 _ p.1 ⟨n.me,⟨m.hdr.author,m.hdr.round,hdR m.hdr⟩⟩ _ _ ((rs.mono RSign.mono (Zah _ _)).mono RSign.mono (Zaa b)) (rd5'.mono (Zaa b)) (by omega)).mono ?_;rintro e W7 ⟨v7,rfl,ha,rs7⟩;have c:=b.trans (ha.mono b.size);obtain⟨v7A,v7c,rfl,Z⟩:=id rs7;clear Z;refine g.out _ _ (c) fun t=>?_
     clear g K
     try simp only[sx]
     repeat(refine Zq ?_;simp only[sx])
     refine Zc fun K g=>?_
     try simp only[sy]
     have F7:=F2'.below c;obtain⟨_,_,vs8,g618,_⟩:=id F7.sg;refine Sec.wp_store g618 (i:=0) [.slice v7A (addL p.1 ⟨n.me,⟨m.hdr.author,m.hdr.round,hdR m.hdr⟩⟩).length v7c] (show 0+1≤1 by decide) rfl rfl rfl (by kernel_rfl) rfl rfl ?_;intro W8 S8 E h8;have F8:=F7.putSigns S8 E h8 (rs7.mono RSign.mono ((Zbm (b':=W5.heap.size) b.size).trans (Zbz l5)));have k8:=Zap F7.lim E F7.mark;have X8:=Za3 (L.kept c) k8 C;have rou8:=(rou5.fr RMsgZ.mono (Fr.of_below (T:=fun _=>False) l5 c) (fun h=>h)).fr RMsgZ.mono k8 (by simp);have v8:=(Zaf l5 c).trans k8.view;have A8:=All.trans A5 (All.trans (Fr.of_below (T:=All) l5 c) k8.all);refine g.out _ _ ?_;clear g K
     try simp only[sx]
     refine Zai ?_;go_wp2_with fail;go_meet;exact⟨o1,A8,by rw[hq.out];exact F8,rou8,X8,C,(Zaf l2 z).trans v8⟩
    ·have kb:(K==2)=false:=by simpa using k2
     by_cases k3:K=3
     ·have kb3:(K==3)=true:=by simpa using k3
      have hq:Hid (q=addL p.1 ⟨n.me,m.slt⟩):=by
       show _=_;rw[A.out];unfold Znk;rw[if_neg (by rw[g.out];exact k2),if_pos (by rw[g.out];exact k3)]
      have L:=M;have l5:=l2;have A5:=A2';have rou5:=rou2;have rd5':Zan W2.cell? _ m.slt.digest:=rm2.dig.mono (Zah _ _);obtain⟨W5,ga⟩:∃x:World,x=W2:=⟨_,rfl⟩;subst ga;clear k2 k3 A;go_upto_region 9 with fail;obtain⟨_,_,vs,g61,rs⟩:=id F2'.sg;have z61:=g61.cell (j:=0) (show 0<1 by decide);simp at z61;obtain⟨_,v5,S5,_⟩:=id (F2'.node i hi);have z0:=S5.nd0;rw[show Zav {G with signs:=p.1,away:=p.2 } i=n1 from hb.out,U.out,r.out]at z0;obtain⟨vsA,vsc,rfl,H⟩:=id rs;clear S5 H;refine Zt (fun w'=>Below W5.heap.size W5 w') (fun w'=>Below W5.heap.size W5 w') [15,18] (.q 0 (.q 1 (.q 2 (.q 3 (.q 4 (.q 5 (.q 6 (.q 7 (.q 8 (.q 9 (.q 10 (.q 11 (.l 12 (.q 13 (.q 14 (.qc 15 (.q 16 (.q 17 (.l 18 .nil))))))))))))))))))) ?_ ?_
      ·exact⟨Zad _,Zad _⟩
      intro W6 b t
      repeat((first|refine pq (h:=⟨_,fun w' t=>by(have x:=L.kept t;have y0:=Zaa t _ _ z0;have y1:=Zaa t _ _ z61;have c6:=x.cell 6;have c7:=x.cell 7;have c10:=x.cell 10;have c11:=x.cell 11;have c12:=x.cell 12;simp at c6 c7 c10 c11 c12;go_simp;exact rfl),?_⟩)|refine Zq ?_);simp only[sx])
      refine Zd fun K g=>?_
      try simp only[sy]
      go_simp;refine(Zj1 _ p.1 ⟨n.me,m.slt⟩ _ _ ((rs.mono RSign.mono (Zah _ _)).mono RSign.mono (Zaa b)) (rd5'.mono (Zaa b)) (by omega)).mono ?_;rintro e W7 ⟨v7,rfl,ha,rs7⟩;have c:=b.trans (ha.mono b.size);obtain⟨v7A,v7c,rfl,Z⟩:=id rs7;clear Z;refine g.out _ _ (c) fun t=>?_
      clear g K
      try simp only[sx]
      repeat(refine Zq ?_;simp only[sx])
      refine Zc fun K g=>?_
      try simp only[sy]
      have F7:=F2'.below c;obtain⟨_,_,vs8,g618,_⟩:=id F7.sg;refine Sec.wp_store g618 (i:=0) [.slice v7A (addL p.1 ⟨n.me,m.slt⟩).length v7c] (show 0+1≤1 by decide) rfl rfl rfl (by kernel_rfl) rfl rfl ?_;intro W8 S8 E h8;have F8:=F7.putSigns S8 E h8 (rs7.mono RSign.mono ((Zbm (b':=W5.heap.size) b.size).trans (Zbz l5)));have k8:=Zap F7.lim E F7.mark;have X8:=Za3 (L.kept c) k8 C;have rou8:=(rou5.fr RMsgZ.mono (Fr.of_below (T:=fun _=>False) l5 c) (fun h=>h)).fr RMsgZ.mono k8 (by simp);have v8:=(Zaf l5 c).trans k8.view;have A8:=All.trans A5 (All.trans (Fr.of_below (T:=All) l5 c) k8.all);refine g.out _ _ ?_;clear g K
      try simp only[sx]
      refine Zai ?_;go_wp2_with fail;go_meet;exact⟨o1,A8,by rw[hq.out];exact F8,rou8,X8,C,v8⟩
     ·have kb3:(K==3)=false:=by simpa using k3
      have hq:Hid (q=p.1):=by
       show _=_;rw[A.out];unfold Znk;rw[if_neg (by rw[g.out];exact k2),if_neg (by rw[g.out];exact k3)]
      clear k2 k3 A;go_wp2_with fail;go_meet;exact⟨o1,A2',by rw[hq.out];exact F2',rou2,M,C,fun a v h=>h⟩
   case rest =>
    obtain⟨o3,A3,F3,rou3,gd,g5,v3⟩:=hcut;obtain⟨W3,gh⟩:∃W3:World,W3=wc:=⟨_,rfl⟩;subst gh;have l3:=F3.lim;have T3:=T2'.mono v3;have rm3:=rm2.mono v3;obtain⟨va,g62,ra⟩:=id F3.away;have z62:=g62.cell (j:=0) (show 0<1 by decide);simp at z62;obtain⟨vaA,vac,W⟩:=ra.form;have W:va=.slice vaA p.2.length vac:=W;subst W;clear A2' F2' l2 rou2 v2 rm2 T2' M C A e2
    by_cases h4:p.2.length<400
    rotate_left
    ·have g3:¬(p.2.length:Int)<400:=by omega
     have J:Hid ((q,p.2)=(n.out.take (k+1)).foldl (Zc8 n.me) (f.signs,f.away)):=by
      show _=_;rw[N.out,←B.out];unfold Zc8;simp only;rw[if_neg h4]
     have gj:q.length≤1000000000+(k+1):=by rw[←B.out];omega
     clear N B h4;go_wp2;go_roundw
     case rel=>exact⟨k+1,o3,(q,p.2),by omega,by go_num,J,A3,F3,rou3,T3,by omega,hw⟩
     case measure=>simp[intOf]<;>omega
    have g3:(p.2.length:Int)<400:=by omega
    have J:Hid ((q,p.2++[m])=(n.out.take (k+1)).foldl (Zc8 n.me) (f.signs,f.away)):=by
     show _=_;rw[N.out,←B.out];unfold Zc8;simp only;rw[if_pos h4]
    have gj:q.length≤1000000000+(k+1):=by rw[←B.out];omega
    clear N B;go_upto_region 11 with fail;refine Zt (fun w'=>Below W3.heap.size W3 w') (fun w'=>Blk w' wr.heap.size 90 #[.int .i64 m.src,.int .i64 m.dst,.int .i64 m.kind,.int .i64 m.bat.author,.int .i64 m.bat.number,.slice tA m.bat.txs.length tc,.int .i64 m.hdr.author,.int .i64 m.hdr.round,.slice bA m.hdr.batches.length bc,.slice pA m.hdr.parents.length pc,.int .i64 m.slt.author,.int .i64 m.slt.round,.slice dA' m.slt.digest.length dc',.int .i64 m.crt.hdr.author,.int .i64 m.crt.hdr.round,.slice cA m.crt.hdr.batches.length cc,.slice qA m.crt.hdr.parents.length qc,.slice vA m.crt.voters.length vc,.int .i64 m.round]∧w'.cell? ⟨gf,62,none⟩=some (.slice vaA p.2.length vac)) [10] (.q 0 (.q 1 (.q 2 (.q 3 (.q 4 (.q 5 (.l 6 (.l 7 (.q 8 (.q 9 (.l 10 .nil))))))))))) ?_ ?_
    ·exact⟨Zad _,gd.drew,z62⟩
    intro W4 b t;have F4:=F3.below b;have l4:=F4.lim;have v4:=Zaf l3 b;have rm4:=rm3.mono v4;have A4:=All.trans A3 (Fr.of_below (T:=All) l3 b);have rou4:=rou3.fr RMsgZ.mono (Fr.of_below (T:=fun _=>False) l3 b) (fun h=>h);have ra4:Row o3 (5,0) 19 RMsgZ 90 W4 (.slice vaA p.2.length vac) p.2:=ra.fr RMsgZ.mono (Fr.of_below (T:=fun _=>False) l3 b) (fun h=>h);have g7:=t.1
    repeat((first|refine pq (h:=⟨_,fun w' t=>by(have h0:=t.2;go_simp;exact rfl),?_⟩)|refine Zq ?_);simp only[sx])
    refine pl_q (by assumption) rfl rfl ?_;apply Exists.intro;refine⟨fun w' t=>Zfv 90 _ rfl _ rfl _ _ (0,0) _ (t.1) underlying90 rfl (by kernel_rfl),?_⟩;simp only[List.getElem_toArray,List.getElem_cons_zero,List.getElem_cons_succ,Act.put,List.setIfInBounds_toArray,List.set_cons_zero,List.set_cons_succ]
    repeat(refine Zq ?_;simp only[sx])
    refine Zd fun K g=>?_
    try simp only[sy]
    go_simp;have z:=Zac W4 (.cells #[.int .i64 m.src,.int .i64 m.dst,.int .i64 m.kind,.int .i64 m.bat.author,.int .i64 m.bat.number,.slice tA m.bat.txs.length tc,.int .i64 m.hdr.author,.int .i64 m.hdr.round,.slice bA m.hdr.batches.length bc,.slice pA m.hdr.parents.length pc,.int .i64 m.slt.author,.int .i64 m.slt.round,.slice dA' m.slt.digest.length dc',.int .i64 m.crt.hdr.author,.int .i64 m.crt.hdr.round,.slice cA m.crt.hdr.batches.length cc,.slice qA m.crt.hdr.parents.length qc,.slice vA m.crt.voters.length vc,.int .i64 m.round] 90);refine g.out _ _ (⟨t.1.kept z,Zaa z _ _ t.2⟩) fun t=>?_
    clear g K
    try simp only[sx]
    repeat(refine Zq ?_;simp only[sx])
    refine Zd fun K g=>?_
    try simp only[sy]
    refine Zcf (n:=140737488355328) RMsgZ.mono m [.int .i64 m.src,.int .i64 m.dst,.int .i64 m.kind,.int .i64 m.bat.author,.int .i64 m.bat.number,.slice tA m.bat.txs.length tc,.int .i64 m.hdr.author,.int .i64 m.hdr.round,.slice bA m.hdr.batches.length bc,.slice pA m.hdr.parents.length pc,.int .i64 m.slt.author,.int .i64 m.slt.round,.slice dA' m.slt.digest.length dc',.int .i64 m.crt.hdr.author,.int .i64 m.crt.hdr.round,.slice cA m.crt.hdr.batches.length cc,.slice qA m.crt.hdr.parents.length qc,.slice vA m.crt.voters.length vc,.int .i64 m.round] Zjs _ _ rfl rfl ra4 l4 (by decide) rfl rfl rfl ho.out ⟨⟨_,_,_,_,_,_,_,rfl,rm4.txs,rm4.bats,rm4.pars,rm4.dig,rm4.cbats,rm4.cpars,rm4.vots⟩,gi⟩ (Za _) (by omega) (by omega) (fun v' w5 o5 r5 f5=>?_);obtain⟨A5,c5,rfl⟩:=r5.form;have gc:=Za3 g7 f5 g5;have g624:=g62.fr (.of_below (T:=fun _=>False) l3 b) F3.mark (fun h=>h);have g625:=g624.fr f5 F4.mark (by simp);have z625:=g625.cell (j:=0) (show 0<1 by decide);simp at z625;have rou5:=rou4.fr RMsgZ.mono f5 (by simp);have T5:=(T3.mono v4).mono f5.view;have A5':=All.trans A4 f5.all;have m5:=Zb6 F4.sg.rogue.lt f5 F4.mark (by simp);have l5:=f5.lim;refine g.out _ _ (⟨gc,z625⟩) fun t=>?_
    clear g K
    try simp only[sx]
    repeat(refine Zq ?_;simp only[sx])
    refine Zc fun K g=>?_
    try simp only[sy]
    refine Sec.wp_store g625 (i:=0) [.slice A5 (p.2++[m]).length c5] (show 0+1≤1 by decide) rfl rfl rfl (by kernel_rfl) rfl rfl ?_;intro w6 S6 ht h6;have F6:=F4.newAway f5 r5 S6 ht h6;have k6:=Zap l5 ht m5;have A6:=All.trans A5' k6.all;have rou6:=rou5.fr RMsgZ.mono k6 (by simp);have T6:=T5.mono k6.view;have F6:FtAt o5 w6 gf {G with signs:=q,away:=p.2++[m] }:=F6;clear rou5 T5 A5' r5 F4 rou4 ra4 rm4 A4;refine g.out _ _ ?_;clear g K
    try simp only[sx]
    repeat(refine Zq ?_;simp only[sx])
    refine Zai ?_;go_wp2;go_roundw
    case rel=>exact⟨k+1,o5,(q,p.2++[m]),by omega,by go_num,J,A6,F6,rou6,T6,by omega,by simp;omega⟩
    case measure=>simp[intOf]<;>omega
  ·have hy:k=n.out.length:=by omega
   have g9:Hid (p=n.out.foldl (Zc8 n.me) (f.signs,f.away)):=by
    show _=_;rw[hp.out,hy,List.take_length]
   have hf:¬(k:Int)<n.out.length:=by omega
   clear hy hp;have N1:=F1.node i hi;rw[show Zav {G with signs:=p.1,away:=p.2 } i=n1 from hb.out,r.out]at N1;obtain⟨V,⟨xtx,xba,xdi,xta,xda,xow,xmi,xvo,xtp,xou⟩,S1,R1⟩:=id N1;have l1:=F1.lim;go_wp2_with (refine Sec.store S1 (i:=13) [.slice none 0 0] (show 13+1≤15 by decide) rfl rfl rfl rfl (by kernel_rfl) rfl rfl ?_);intro w3 S3 g0 h3;have f3:=Zap l1 g0 V;have R3:=(R1.fr f3 (fun k e=>by injection e;omega)).setOu (Row.nil _ _ _ _ _ _);have S3:=S3.putOu (xs:=[]);have K3:NFr i 0 gf off o1 wr o1 w3:=(NFr.refl l1).store V g0 h3 (show 13+1≤15 by decide);have N3:NodeAt o1 w3 i 0 gf off {n1 with out:=[] }:=⟨V,_,S3,R3⟩;rw[←r.out]at K3 N3;have F3:=F1.step hi K3 N3;have A3:=All.trans A1 K3.fr.all;have hs:FtAt o1 w3 gf QR:=by rw[HR.out p g9.out];exact F3
   clear F3 N3 R3 S3 S1 R1;go_wp2;go_end0;exact⟨rfl,o1,A3,hs⟩
end Fl
end Go.Proofs.YtbcpbnfojfiekaaGreatDoor
