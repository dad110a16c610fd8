/- A part of what the last text stands on. -/
import Derived.Test.YtbcpbnfojfiekaaGreatDoorK23
import Derived.Test.YtbcpbnfojfiekaaGreatDoorK24
namespace Go.Proofs.YtbcpbnfojfiekaaGreatDoor
open Go.ChangeShapes Go.WideShapes Go.ChangeAt Go.RowKit Go.Proofs.Tryz Qa Qb Qc
set_option linter.all false
set_option maxHeartbeats 20000000
set_option maxRecDepth 100000
variable{w w' W:World}{v u:Value}{h:View}{e:TypeId}{k i sz b:Nat}{n:Fl.Nd}{α:Type}{xs:List α}{R:View→List Value→α→Prop}{l:List Crt}
namespace Fl
theorem insL_len(l:List Crt)(c:Crt):(insL l c).length≤400:=by
 by_cases h:insE l c=0
 ·obtain⟨_,_,_,_,a,e⟩:=Zgv h;rw[e];simp;omega
 ·unfold insL;rw[if_neg h];simp
theorem Zop{c:Crt}{vb vp vv:Value}(r1:RDigs h vb c.hdr.batches)(r2:RDigs h vp c.hdr.parents)(r3:RIs h vv c.voters):RMsg h (prfM c) (.slice none 0 0) (.slice none 0 0) (.slice none 0 0) (.slice none 0 0) vb vp vv :=
 ⟨RVec.nil _ _ _,RDigs.nil _,RDigs.nil _,RVec.nil _ _ _,r1,r2,r3⟩
theorem Zjo(i tb g off:Nat)(n:Nd)(c:Crt)(wr:Bool)(vb vp vv:Value)(o:Own)(w:World)(P:Lim o w)(hi:i<5)(hN:NodeAt o w i tb g off n)(hT:Tabs (Zas o w))(rb:RDigs (Zas o w) vb c.hdr.batches)(rp:RDigs (Zas o w) vp c.hdr.parents)(rv:RIs (Zas o w) vv c.voters) :
 Calls prog 98 #[.pointer (some ⟨g,off,none⟩),.agg #[.int .i64 c.hdr.author,.int .i64 c.hdr.round,vb,vp,vv],.bool wr] w fun e w'=>e=.returned (.bool (insert n c wr).2)∧∃o',NFr i tb g off o w o' w'∧NodeAt o' w' i tb g off (insert n c wr).1:=by
 obtain⟨hm,⟨vtx,vba,vdi,vta,vda,vow,vmi,vvo,vtp,vou⟩,t,hR⟩:=id hN;have hg:=t.lt;obtain⟨bA,bc,rfl,X⟩:=id rb;obtain⟨pA,pc,rfl,Z⟩:=id rp;obtain⟨vA,vc,rfl,S⟩:=id rv;clear X Z S;have rda:=hR.da;obtain⟨daA,dac,H,V⟩:=id rda;have H:vda=.slice daA n.dag.length dac:=H;subst H;clear V;obtain⟨QE,G⟩:∃q,Hid (insE n.dag c=q):=⟨_,rfl⟩;obtain⟨QL,B⟩:∃q,Hid (insL n.dag c=q):=⟨_,rfl⟩;have N:Hid (QL.length≤400):=by show _≤_;rw[←B.out];exact insL_len _ _
 have J:Hid (insert n c wr=if QE≠0 then(n,false)else if wr then(if Zfr n (prfM c)=0 then({ kept n (prfM c)with dag:=QL },true)else(n,false))else({ n with dag:=QL },true)):=by
  show _=_;unfold Fl.insert;rw[G.out,B.out]
 rw[J.out];clear J;have hc:=P.none w.heap.size (Za _);go_enter func98,ntmps98;go_upto_region 1 with fail;refine Zo fun W U h9 Q=>?_
 have v1:=Zaf P Q;have l1:=Zam P Q;have s7:=Zaa Q _ _ t.nd7;simp only at s7;have rda1:=(rda.mono RCrt.mono v1).mono RCrt.mono (Zah _ _);have rb1:=rb.mono Ze v1;have rp1:=rp.mono Ze v1;have rv1:=rv.mono v1;have T1:=hT.mono v1;have N1:=hN.below P Q;have F1:NFr i tb g off o w o W:=(NFr.refl P).below Q;clear t hR rda rb rp rv hT hN
 go_cut [7,8] (fun p e w'=>∃gb A5 c5,p=.pointer (some ⟨gb,0,none⟩)∧e=.int .i64 QE∧Blk w' gb 107 #[.slice A5 QL.length c5]∧Below W.heap.size W w'∧RCrts (View.from w'.cell? W.heap.size) (.slice A5 QL.length c5) QL∧W.heap.size≤gb)
 case first =>
  refine Zr [11] (.q 0 (.q 1 (.q 2 (.q 3 (.q 4 (.alt 5 (.q 6 (.q 7 (.q 8 (.l 9 (.l 10 (.qc 11 .nil)))))) 9 (.l 5 (.q 6 (.q 7 (.q 8 (.l 10 (.qc 11 .nil)))))))))))) fun W3 j=>?_
  repeat((first|refine pq (h:=⟨_,fun w' t=>by(have h1:=Zaa t _ _ s7;have L:=U.kept t;have h2:=L.cell 0;have h3:=L.cell 1;have D:=L.cell 2;have h5:=L.cell 3;have O:=L.cell 4;simp at h2 h3 D h5 O;go_simp;exact rfl),?_⟩)|refine Zq ?_);simp only[sx])
  refine Zcm ?_ ?_
  ·refine Zd fun K d=>?_
   try simp only[sy]
   go_simp;have q3:=Zaa j;refine(Ziu _ n.dag c _ _ _ _ (rda1.mono RCrt.mono q3) ((rb1.mono Ze (Zah _ _)).mono Ze q3) ((rp1.mono Ze (Zah _ _)).mono Ze q3) ((rv1.mono (Zah _ _)).mono q3) ((T1.mono (Zah _ _)).mono q3)).mono ?_;rintro e w5 ⟨d5,rfl,A,od5⟩;rw[G.out];rw[B.out]at od5;have rd5:=od5.reads_from (bs:=88) RCrt.mono (by have:=N.out;omega);have b:=j.trans (A.mono j.size);obtain⟨A5,c5,rfl,F⟩:=id rd5;clear F;refine d.out _ _ (b) fun t=>?_
   clear d K
   try simp only[sx]
   repeat(refine Zq ?_;simp only[sx])
   refine Zd fun K d=>?_
   try simp only[sy]
   go_simp;have E:=Blk.new w5 107 #[.slice none 0 0];have r:=Zac w5 (.cells #[.slice none 0 0] 107);have a:=b.trans (r.mono b.size);have f:=b.size;refine d.out _ _ (a) fun t=>?_
   clear d K
   try simp only[sx]
   repeat(refine Zq ?_;simp only[sx])
   refine Zd fun K d=>?_
   try simp only[sy]
   refine Zh 1 E ?_;intro w7 I u;have v:Below W.heap.size W w7:=Zab a a.size u (by intro k e;injection e;omega);have rd7:=(rd5.mono RCrt.mono (Za0 _ ((Zel r (Za _)).trans (Zbn u)))).mono RCrt.mono (Zbm (b':=W.heap.size) j.size);refine d.out _ _ (v) fun t=>?_
   clear d K
   try simp only[sx]
   repeat(refine Zq ?_;simp only[sx])
   refine Zai ?_;go_wp2_with fail;go_meet;exact⟨_,A5,c5,rfl,rfl,I,v,rd7,f⟩
  ·refine Zd fun K d=>?_
   try simp only[sy]
   go_simp;have E:=Blk.new W3 107 #[.slice none 0 0];have r:=Zac W3 (.cells #[.slice none 0 0] 107);have a:=j.trans (r.mono j.size);have f:=j.size;refine d.out _ _ (a) fun t=>?_
   clear d K
   try simp only[sx]
   repeat(refine Zq ?_;simp only[sx])
   refine Zd fun K d=>?_
   try simp only[sy]
   go_simp;have q3:=Zaa a;refine(Ziu _ n.dag c _ _ _ _ (rda1.mono RCrt.mono q3) ((rb1.mono Ze (Zah _ _)).mono Ze q3) ((rp1.mono Ze (Zah _ _)).mono Ze q3) ((rv1.mono (Zah _ _)).mono q3) ((T1.mono (Zah _ _)).mono q3)).mono ?_;rintro e w5 ⟨d5,rfl,A,od5⟩;rw[G.out];rw[B.out]at od5;have rd5:=od5.reads_from (bs:=88) RCrt.mono (by have:=N.out;omega);have b:=a.trans (A.mono a.size);have R:=E.kept A;have Y:=A.size;simp at Y;obtain⟨A5,c5,rfl,F⟩:=id rd5;clear F;refine d.out _ _ (b) fun t=>?_
   clear d K
   try simp only[sx]
   repeat(refine Zq ?_;simp only[sx])
   refine Zd fun K d=>?_
   try simp only[sy]
   refine Zh 1 R ?_;intro w7 I u;have v:Below W.heap.size W w7:=Zab b b.size u (by intro k e;injection e;omega);have rd7:=(rd5.mono RCrt.mono (Zjr u (by simp))).mono RCrt.mono (Zbm (b':=W.heap.size) a.size);refine d.out _ _ (v) fun t=>?_
   clear d K
   try simp only[sx]
   repeat(refine Zq ?_;simp only[sx])
   refine Zai ?_;go_wp2_with fail;go_meet;exact⟨_,A5,c5,rfl,rfl,I,v,rd7,f⟩
 case rest =>
  obtain⟨gb,A5,c5,rfl,rfl,hB,z,rd,f⟩:=hcut;have vc:=Zaf l1 z;have lc:=Zam l1 z;have Nc:=N1.below l1 z;have Fc:=F1.below z;have rh:=rd.mono RCrt.mono (Zbz l1);have rbc:=rb1.mono Ze vc;have rpc:=rp1.mono Ze vc;have rvc:=rv1.mono vc;have y:=U.kept z;have M:o gb=none:=l1.none gb f;clear s7 rda1 rb1 rp1 rv1 T1 N1 F1 U
  by_cases T:QE=0
  ·subst T;have b0:=hB.cell 0;simp at b0;cases wr
   ·have N4:=Nc;have r4:=rh;have l4:=lc;have F4:=Fc;clear Nc rh lc Fc;obtain⟨m,⟨ytx,yba,ydi,yta,yda,yow,ymi,yvo,ytp,you⟩,S4,R4⟩:=N4;go_wp2_with (refine Sec.store S4 (i:=7) [.slice A5 QL.length c5] (show 7+1≤15 by decide) rfl rfl rfl rfl (by kernel_rfl) rfl rfl ?_);intro w6 S6 x O;have R6:=(R4.setDa r4).fr (Zap l4 x m) (fun k e=>by injection e;omega);have F6:=F4.store m x O (show 7+1≤15 by decide);go_wp2;go_ret;exact⟨rfl,o,F6,m,_,S6.putDa,R6⟩
   ·have g0:=y.cell 0;have g1:=y.cell 1;have g2:=y.cell 2;have g3:=y.cell 3;have g4:=y.cell 4;simp at g0 g1 g2 g3 g4;go_wp2_with fail;refine(Zkq i tb g off n (prfM c) _ _ _ _ _ _ _ o _ lc hi Nc (Zop rbc rpc rvc) (fun s hs=>by cases hs)).mono ?_;rintro e w4 ⟨rfl,o4,F34,N4⟩;have C:Fl.keep n (prfM c)=if Zfr n (prfM c)=0 then(kept n (prfM c),true)else(n,false):=rfl
    by_cases D:Zfr n (prfM c)=0
    ·rw[C,if_pos D]at N4⊢;have F4:=Fc.trans F34;have r4:=rh.mono RCrt.mono F34.fr.view;have l4:=F34.fr.lim;have b0:=(Za3 hB F34.fr M).cell 0;simp at b0;have H4:=Zb D;clear Nc rh lc Fc F34 C D g0 g1 g2 g3 g4;obtain⟨m,⟨ytx,yba,ydi,yta,yda,yow,ymi,yvo,ytp,you⟩,S4,R4⟩:=N4;go_wp2_with (refine Sec.store S4 (i:=7) [.slice A5 QL.length c5] (show 7+1≤15 by decide) rfl rfl rfl rfl (by kernel_rfl) rfl rfl ?_);intro w6 S6 x O;have R6:=(R4.setDa r4).fr (Zap l4 x m) (fun k e=>by injection e;omega);have F6:=F4.store m x O (show 7+1≤15 by decide);go_wp2;go_ret;simp only[H4.out,if_true];exact⟨rfl,o4,F6,m,_,S6.putDa,R6⟩
    ·rw[C,if_neg D]at N4⊢;have H4:=Zb D;clear C;go_wp2;go_ret
     first
      |exact⟨rfl,o4,Fc.trans F34,N4⟩
      |(simp only[D,if_false];exact⟨rfl,o4,Fc.trans F34,N4⟩)
  ·have he:(QE==0)=false:=by simpa using T
   go_wp2;go_ret
   first|exact⟨rfl,o,Fc,Nc⟩|(simp only[T,ne_eq,not_false_eq_true,if_true];exact⟨rfl,o,Fc,Nc⟩)
end Fl
theorem Zgy(vl:Value)(l:List Slot)(h:Hdr)(vb vp:Value)(w:World)(hl:RSlots w.cell? vl l)(hb:RDigs w.cell? vb h.batches)(hp:RDigs w.cell? vp h.parents)(hT:Tabs w.cell?) :
 Calls prog 164 #[vl,.agg #[.int .i64 h.author,.int .i64 h.round,vb,vp]] w fun e w'=>∃d sd,e=.returned (.tuple #[d,.agg #[.int .i64 (Zcz l h).author,.int .i64 (Zcz l h).round,sd],.int .i64 (Ze5 l h)])∧Below w.heap.size w w'∧OwnSl 3 (RFrom w.heap.size RSlot) 85 w' w.heap.size d (Zc6 l h)∧Zan (View.from (View.but w'.cell? d.ownBlock) w.heap.size) sd (Zcz l h).digest:=by
 obtain⟨A,c,rfl,a5⟩:=id hl;obtain⟨bA,bc,rfl,ab⟩:=id hb;obtain⟨pA,pc,rfl,a7⟩:=id hp;clear a5 ab a7;obtain⟨QE,hr⟩:∃q,Hid (Ze5 l h=q):=⟨_,rfl⟩;obtain⟨QL,gx⟩:∃q,Hid (Zc6 l h=q):=⟨_,rfl⟩;obtain⟨QS,gu⟩:∃q,Hid (Zcz l h=q):=⟨_,rfl⟩;have a:Hid (QE=if Zdd l≠0 then Zdd l else if hF h≠0 then hF h else if 0≤Zb4 l h.author h.round then(match l[(Zb4 l h.author h.round).toNat]? with|some s=>if s.digest==hD h then 0 else 7|none=>7)else if 400≤l.length then 6 else 0):=hr.out.symm;have o:Hid (QL=if QE=0 then(if 0≤Zb4 l h.author h.round then l else l++[Zck h])else []):=by show _=_;rw[←gx.out];unfold Zc6;rw[hr.out]
 have B:Hid (QS=if QE=0 then Zck h else⟨0,0,[]⟩):=by show _=_;rw[←gu.out];unfold Zcz;rw[hr.out]
 have hm:Hid (Zdd l=0→l.length≤400):=Zwe;have gf:Hid ((Zck h).author=h.author∧(Zck h).round=h.round∧(Zck h).digest=hD h):=⟨rfl,rfl,rfl⟩;rw[hr.out,gx.out,gu.out];clear hr gx gu;obtain⟨E1,gg⟩:∃q,Hid (Zdd l=q):=⟨_,rfl⟩;obtain⟨E2,ga⟩:∃q,Hid (hF h=q):=⟨_,rfl⟩;rw[gg.out,ga.out]at a;rw[gg.out]at hm
 have bad:∀(w1:World) (v:Int) (gz:v≠0) (hE:Hid (QE=v)) (b:Below w.heap.size w w1),Hid (∃d sd,Ending.returned (.tuple #[.slice none 0 0,.agg #[.int .i64 0,.int .i64 0,.slice none 0 0],.int .i64 v])=Ending.returned (.tuple #[d,.agg #[.int .i64 QS.author,.int .i64 QS.round,sd],.int .i64 QE])∧Below w.heap.size w w1∧OwnSl 3 (RFrom w.heap.size RSlot) 85 w1 w.heap.size d QL∧Zan (View.from (View.but w1.cell? d.ownBlock) w.heap.size) sd QS.digest):=fun w1 v gz hE b=>by
  have h1:QS=⟨0,0,[]⟩:=by rw[B.out,if_neg (by rw[hE.out];exact gz)]
  have h2:QL=[]:=by rw[o.out,if_neg (by rw[hE.out];exact gz)]
  refine⟨.slice none 0 0,.slice none 0 0,?_,b,?_,?_⟩
  ·rw[hE.out,h1]
  ·rw[h2];exact OwnSl.nil _ _ _ _ _
  ·rw[h1];exact RVec.nil _ _ _
 go_enter func164,ntmps164;go_upto_region 1 with fail
 refine Za8 _ _ _ _ _ (fun W=>Code.wp _ _ _ _ W) (fun W sk s5 a8 gy=>?_);have al:w.heap.size+2≤W.heap.size:=by omega
 clear a8;have a2:=gy.size;go_wp2_with fail;refine(Zms _ l _ (hl.mono RSlot.mono (Zaa gy))).mono ?_;rintro e w1 ⟨rfl,V⟩;rw[gg.out];have Z:=gy.trans (V.mono a2);have I:=sk.kept V;have g5:=s5.kept V;have sa:=Z.size
 by_cases h1:E1=0
 rotate_left
 ·have R:Hid (QE=E1):=by show _=_;rw[a.out];simp[h1]
  go_upto_region 3 with fail;go_wp2_with (refine Zj 3 g5 ?_)
  intro wz X T;have E:=bad wz E1 h1 R (Zab Z sa T (by intro k e;injection e;omega));clear a o B bad;go_wp2;refine bodyPost_ret (Zbo rfl rfl (by kernel_rfl) (by kernel_rfl) X rfl) rfl ?_;exact E.out
 have g9:=Zb (hm.out h1);replace a:Hid (QE=if E2≠0 then E2 else if 0≤Zb4 l h.author h.round then(match l[(Zb4 l h.author h.round).toNat]? with|some s=>if s.digest==hD h then 0 else 7|none=>7)else if 400≤l.length then 6 else 0):=by show _=_;rw[a.out];simp[h1]
 clear hm gg sk s5;subst h1;have q1:=Zaa Z;have g0:=I.cell 0;have g1:=I.cell 1;have g2:=I.cell 2;have g3:=I.cell 3;simp at g0 g1 g2 g3;go_wp2_with fail;refine(Zby _ _ _ _ h.batches h.parents _ (hb.mono Ze q1) (hp.mono Ze q1) (hT.mono q1)).mono ?_;rintro e w2 ⟨vd,rfl,hf,rd⟩;have s4:Hid (E2=0→Zjq h.author h.round h.batches h.parents=(Zck h).digest):=fun h0=>if_pos (show hF h=0 by rw[ga.out];exact h0)
 rw[show Zb5 h.author h.round h.batches h.parents=E2 from ga.out];have h3:=Z.trans (hf.mono sa);have ht:=I.kept hf;have g7:=g5.kept hf;have s7:=h3.size;have af:w.heap.size+2≤w2.heap.size:=by have:=V.size;have:=hf.size;omega
 clear g0 g1 g2 g3 q1 I g5
 by_cases h2:E2=0
 rotate_left
 ·have R:Hid (QE=E2):=by show _=_;rw[a.out];simp[h2]
  go_upto_region 6 with fail;go_wp2_with (refine Zj 3 g7 ?_)
  intro wz X T;have E:=bad wz E2 h2 R (Zab h3 s7 T (by intro k e;injection e;omega));clear a o B bad;go_wp2;refine bodyPost_ret (Zbo rfl rfl (by kernel_rfl) (by kernel_rfl) X rfl) rfl ?_;exact E.out
 rw[s4.out h2]at rd;replace a:Hid (QE=if 0≤Zb4 l h.author h.round then(match l[(Zb4 l h.author h.round).toNat]? with|some s=>if s.digest==(Zck h).digest then 0 else 7|none=>7)else if 400≤l.length then 6 else 0):=by show _=_;rw[a.out,if_neg (by simp[h2])];rfl
 clear s4 ga;subst h2;generalize Zck h=S at *;have s9:=hl.mono RSlot.mono (Zaa h3);have r2:=rd.mono (View.from_le _ _);obtain⟨dA,dc,rfl,su⟩:=id r2;clear su;have a1:w.heap.size+2≤w1.heap.size:=by have:=V.size;omega
 obtain⟨_,ap,an,hs⟩:=RSlots.at s9;have gd:=Zb hs;clear hs;have sg:=gf.out.1;have sj:=gf.out.2.1;rw[←sg,←sj]at ht;clear sg sj;go_wp2_with fail
 go_loopw [10,12,32] (fun v _ i wr=>∃k:Nat,k≤l.length∧i=.int .i64 k∧OwnSl 3 (RFrom w2.heap.size RSlot) 85 wr w2.heap.size v (l.take k)∧Below w2.heap.size w2 wr) (fun _ _ i _=>l.length-(intOf i).toNat)
 case atStart=>exact⟨0,Zf _,rfl,OwnSl.nil _ _ _ _ _,Zm _ _⟩
 case round =>
  obtain⟨k,hk,rfl,p,b⟩:=hrel;have gb:=b.size
  by_cases s3:k<l.length
  ·obtain⟨b0,o0,vd,rfl,q0,q1,q2,rdk⟩:=gd.out k s3;have c0:=Zaa b _ _ q0;have c1:=Zaa b _ _ q1;have c2:=Zaa b _ _ q2;have rd':=rdk.mono (Zaa b);have Hn:=Zb (Zn s3);have gs:=Zb (show(l.take k).length=k by simp;omega);have gq:=Zb (show l[k].digest.length*1≤140737488355328 from rdk.len);obtain⟨E1A,E1c,rfl,a4⟩:=id rdk;clear q0 q1 q2 rdk a4;generalize l.take k=L at p Hn gs;generalize l[k]=y at *;go_upto_region 11 with fail;refine Zo fun W2 hX s1 f=>?_
   have g8:=b.trans (f.mono gb);have Q:=p.kept (RFrom.mono RSlot.mono) f;have m:=p.lt;have rd2:=rd'.mono (Zaa f);have aq:=f.size;obtain⟨nA,nc,rfl⟩:=Q.form;clear c0 c1 c2 rd' s1 p;refine Zt (fun w'=>Below W2.heap.size W2 w') (fun w'=>Blk w' wr.heap.size 85 #[.int .i64 y.author,.int .i64 y.round,.slice E1A y.digest.length E1c]) [11] (.q 0 (.q 1 (.q 2 (.q 3 (.q 4 (.q 5 (.q 6 (.l 7 (.q 8 (.l 9 (.l 10 (.qc 11 .nil)))))))))))) ?_ ?_
   ·exact⟨Zad _,hX.kept (Zad _)⟩
   intro W3 D B
   repeat((first|refine pq (h:=⟨_,fun w' hS=>by(have hx:=hS;have x0:=hx.cell 0;have x1:=hx.cell 1;have x2:=hx.cell 2;simp at x0 x1 x2;go_simp;exact rfl),?_⟩)|refine Zq ?_);simp only[sx])
   refine Zd fun K G=>?_
   try simp only[sy]
   go_simp;refine(Zcj _ y.digest _ (rd2.mono (Zaa D))).mono ?_;rintro e w4 ⟨td,rfl,a0,o4⟩;have hn:=D.trans (a0.mono D.size);have H:=Q.kept (RFrom.mono RSlot.mono) hn;have gc:=hX.kept hn;have a3:=D.size;have s6:=hn.size
   have rR:RFrom w2.heap.size RSlot (View.but w4.cell? (Value.slice nA L.length nc).ownBlock) [.int .i64 y.author,.int .i64 y.round,td] y :=
    ⟨_,rfl,o4.reads_from gq.out (by omega) (fun g hg=>by have:=(m g hg).2;omega)⟩
   obtain⟨A1,c1',rfl⟩:=o4.form;clear o4;refine G.out _ _ (gc) fun hS=>?_
   clear G K
   try simp only[sx]
   repeat(refine Zq ?_;simp only[sx])
   refine Zd fun K G=>?_
   try simp only[sy]
   go_simp;have r:=Zac w4 (.cells #[.int .i64 y.author,.int .i64 y.round,.slice A1 y.digest.length c1'] 85);refine G.out _ _ (gc.kept r) fun hS=>?_
   clear G K
   try simp only[sx]
   repeat(refine Zq ?_;simp only[sx])
   refine Zd fun K G=>?_
   try simp only[sy]
   refine Zbh (n:=140737488355328) (RFrom.mono RSlot.mono) y [.int .i64 y.author,.int .i64 y.round,.slice A1 y.digest.length c1'] Zku _ _ rfl rfl H (W:=w4) (Zm _ _) (by omega) rfl rfl rfl rfl rR (Za _) (by rw[gs.out];omega) (by rw[gs.out];omega) (fun v2 w6 sf gw gv=>?_);have sc:=gc.grown gv (fun e=>by have:=(m _ e.symm).2;omega);rw[←Hn.out]at sf;have s8:Below w2.heap.size w2 w6:=Zab (g8.trans (hn.mono g8.size)) (by have:=g8.size;omega) gv (fun q hq=>by have:=(m q hq).1;omega);refine G.out _ _ (sc) fun hS=>?_
   clear G K
   try simp only[sx]
   repeat(refine Zq ?_;simp only[sx])
   refine Zai ?_;clear gc sc H rR r D hn Q hX gv;go_wp2;go_roundw
   case rel=>exact⟨k+1,by omega,by go_num,sf,s8⟩
   case measure=>simp[intOf];omega
  ·have sm:k=l.length:=by omega
   rw[sm,List.take_length]at p;obtain⟨nA,nc,rfl⟩:=p.form;clear gd sm;have h7:=ht.kept b;have gh:=g7.kept b;have gi:=h3.trans (b.mono s7);have g0:=h7.cell 0;have g1:=h7.cell 1;simp at g0 g1;go_upto_region 14 with fail;refine Zo fun W4 hX s1 f=>?_
   have hv:=gi.trans (f.mono gi.size);have H:=p.kept (RFrom.mono RSlot.mono) f;have m:=p.lt;have h9:=h7.kept f;have gm:=gh.kept f;have s6:=hv.size;have aj:=f.size;clear g0 g1 s1 h7 gh p ht g7;have g0:=h9.cell 0;have g1:=h9.cell 1;simp at g0 g1;go_wp2_with fail;refine(Ztp _ l S.author S.round _ (hl.mono RSlot.mono (Zaa hv))).mono ?_;rintro e w5 ⟨rfl,r⟩;have t:=hv.trans (r.mono s6);have gr:=t.size;have ai:=r.size;have g6:=h9.kept r;have h8:=gm.kept r;have sr:=hX.kept r;have U:=H.kept (RFrom.mono RSlot.mono) r;have a9:=hl.mono RSlot.mono (Zaa t);have r5:=r2.mono (Zaa (b.trans ((f.trans (r.mono f.size)).mono gb)));obtain⟨_,_,_,hs⟩:=RSlots.at a9;have gd:=Zb hs;clear hs g0 g1 h9 gm hX H s9 r2;rw[←gf.out.1,←gf.out.2.1]at a o
   rcases Zp1 l S.author S.round with h6|⟨j,hj,h4⟩
   ·rw[h6];replace a:Hid (QE=if 400≤l.length then 6 else 0):=by show _=_;rw[a.out,h6];rfl
    replace o:Hid (QL=if QE=0 then l++[S]else []):=by show _=_;rw[o.out,h6];rfl
    clear h6
    by_cases ho:l.length=400
    ·have R:Hid (QE=6):=by show _=_;rw[a.out,if_pos (by omega)]
     have g4:(l.length:Int)=400:=by omega
     obtain⟨nl,sb⟩:∃n,Hid (l.length=n):=⟨_,rfl⟩;rw[sb.out]at ho g4;subst ho;rw[sb.out];go_upto_region 18 with fail;go_wp2_with (refine Zj 3 h8 ?_);intro wz X T;have E:=bad wz 6 (by decide) R (Zab t gr T (by intro k e;injection e;omega));clear a o B bad;go_wp2;refine bodyPost_ret (Zbo rfl rfl (by kernel_rfl) (by kernel_rfl) X rfl) rfl ?_;exact E.out
    have R:Hid (QE=0):=by show _=_;rw[a.out,if_neg (by have:=g9.out;omega)]
    have HL:Hid (QL=l++[S]):=by show _=_;rw[o.out,if_pos R.out]
    have HQ:Hid (QS=S):=by show _=_;rw[B.out,if_pos R.out]
    have g4:¬(l.length:Int)=400:=by omega
    clear a o B bad ho;go_upto_region 20 with fail;refine Zt (fun w'=>Below w5.heap.size w5 w') (fun w'=>Blk w' w.heap.size 76 #[.int .i64 S.author,.int .i64 S.round,.slice bA h.batches.length bc,.slice pA h.parents.length pc]) [10] (.q 0 (.q 1 (.q 2 (.q 3 (.q 4 (.q 5 (.l 6 (.q 7 (.l 8 (.l 9 (.qc 10 .nil))))))))))) ?_ ?_
    ·exact⟨Zad _,g6.kept (Zad _)⟩
    intro W3 D B
    repeat((first|refine pq (h:=⟨_,fun w' hS=>by(have hx:=hS;have x0:=hx.cell 0;have x1:=hx.cell 1;simp at x0 x1;go_simp;exact rfl),?_⟩)|refine Zq ?_);simp only[sx])
    refine Zd fun K G=>?_
    try simp only[sy]
    go_simp;refine(Zcj _ S.digest _ (r5.mono (Zaa D))).mono ?_;rintro e w6 ⟨td,rfl,gw,o6⟩;have O:=D.trans (gw.mono D.size);have hy:=U.kept (RFrom.mono RSlot.mono) O;have ha:=g6.kept O;have a3:=D.size;have ao:=O.size;have ak:=b.size;have gq:=Zb (show S.digest.length*1≤140737488355328 from r5.len)
    have rR:RFrom w2.heap.size RSlot (View.but w6.cell? (Value.slice nA l.length nc).ownBlock) [.int .i64 S.author,.int .i64 S.round,td] S :=
     ⟨_,rfl,o6.reads_from gq.out (by omega) (fun g hg=>by have:=(m g hg).2;omega)⟩
    obtain⟨A1,c1',rfl⟩:=o6.form;clear o6;refine G.out _ _ (ha) fun hS=>?_
    clear G K
    try simp only[sx]
    repeat(refine Zq ?_;simp only[sx])
    refine Zd fun K G=>?_
    try simp only[sy]
    go_simp;have si:=Zac w6 (.cells #[.int .i64 S.author,.int .i64 S.round,.slice A1 S.digest.length c1'] 85);refine G.out _ _ (ha.kept si) fun hS=>?_
    clear G K
    try simp only[sx]
    repeat(refine Zq ?_;simp only[sx])
    refine Zd fun K G=>?_
    try simp only[sy]
    refine Zbh (n:=140737488355328) (RFrom.mono RSlot.mono) S [.int .i64 S.author,.int .i64 S.round,.slice A1 S.digest.length c1'] Zku _ _ rfl rfl hy (W:=w6) (Zm _ _) (by omega) rfl rfl rfl rfl rR (Za _) (by have:=g9.out;omega) (by have:=g9.out;omega) (fun v2 w8 sn a6 he=>?_);have so:=(h8.kept O).grown he (fun e=>by have:=(m _ e.symm).1;omega);have gl:=ha.grown he (fun e=>by have:=(m _ e.symm).1;omega);have sv:=(sr.kept O).grown he (fun e=>by have:=(m _ e.symm).2;omega);have F:=b.trans ((f.trans (r.mono f.size)).mono gb);have gn:Below w.heap.size w w8:=Zab (t.trans (O.mono gr)) (by omega) he (fun q hq=>by have:=(m q hq).1;omega);have hw:Below w2.heap.size w2 w8:=Zab (F.trans (O.mono F.size)) (by omega) he (fun q hq=>(m q hq).1);obtain⟨N,hN⟩:∃N,Hid ((l++[S]).length=N):=⟨_,rfl⟩;have sw:(l++[S]).length*40≤140737488355328:=by have:=g9.out;simp;omega
    obtain⟨mA,mc,sl⟩:=sn.form;rw[hN.out]at sl;subst sl;refine G.out _ _ (gl) fun hS=>?_
    clear G K
    try simp only[sx]
    repeat(refine Zq ?_;simp only[sx])
    refine Zai ?_;clear g6 ha rR si D O gw a6 he hy U gl;go_upto_region 21 with fail;refine Zr [3,4] (.q 0 (.q 1 (.q 2 (.l 3 (.qc 4 .nil))))) fun W9 J=>?_
    repeat((first|refine pq (h:=⟨_,fun w' hS=>by(have hx:=sv.kept hS;have x0:=hx.cell 0;have x1:=hx.cell 1;have x2:=hx.cell 2;simp at x0 x1 x2;go_simp;exact rfl),?_⟩)|refine Zq ?_);simp only[sx])
    refine Zc fun K G=>?_
    try simp only[sy]
    refine Zh 3 (so.kept J) ?_;intro w10 u x;have u:Blk w10 (w.heap.size+1) 85 #[.int .i64 S.author,.int .i64 S.round,.slice dA S.digest.length dc]:=u;have hz:=V.size;have hh:=hf.size;have C:=(sn.kept (RFrom.mono RSlot.mono) J).low RSlot.mono x (by omega);have M:=gn.trans (J.mono (gn).size);have Y:Below w.heap.size w w10:=Zab M M.size x (by intro k e;injection e;omega);have P:=hw.trans (J.mono (hw).size);have rd10:=rd.mono (Zip (b':=w.heap.size) P x (by omega) (fun k hk=>(C.lt k hk).1) (by omega));have rl10:=C.lower RSlot.mono (b':=w.heap.size) (by omega);refine G.out _ _ ?_;clear G K
    try simp only[sx]
    repeat(refine Zq ?_;simp only[sx])
    refine Zai ?_;clear hz hh rd C;go_wp2;refine bodyPost_ret (Zbo rfl rfl (by kernel_rfl) (by kernel_rfl) u rfl) rfl ?_
    exact⟨_,_,by rw[R.out,HQ.out]<;>rfl,Y,by rw[HL.out];exact rl10,by rw[HQ.out];exact rd10⟩
   ·rw[h4];have ad:(j:Int)<(l.length:Int):=by omega
    obtain⟨b0,o0,vd,rfl,q0,q1,q2,rj⟩:=gd.out j hj
    replace a:Hid (QE=if l[j].digest==S.digest then 0 else 7):=by
     show _=_;rw[a.out,h4,if_pos (by omega)];simp[Zp hj]
    replace o:Hid (QL=if QE=0 then l else []):=by show _=_;rw[o.out,h4];simp
    clear h4 q0 q1;obtain⟨DE,s0⟩:∃z,Hid ((l[j].digest==S.digest)=z):=⟨_,Zb rfl⟩;rw[s0.out]at a;go_wp2_with fail;refine(Zb7 _ _ _ _ _ rj r5).mono ?_;rintro e w' ⟨rfl,rfl⟩;rw[s0.out];clear q2 rj;cases DE
    ·have R:Hid (QE=7):=by show _=_;rw[a.out];rfl
     go_upto_region 16 with fail;go_wp2_with (refine Zj 3 h8 ?_)
     intro wz X T;have E:=bad wz 7 (by decide) R (Zab t gr T (by intro k e;injection e;omega));clear a o B bad;go_wp2;refine bodyPost_ret (Zbo rfl rfl (by kernel_rfl) (by kernel_rfl) X rfl) rfl ?_;exact E.out
    ·have R:Hid (QE=0):=by show _=_;rw[a.out];rfl
     have HL:Hid (QL=l):=by show _=_;rw[o.out,if_pos R.out]
     have HQ:Hid (QS=S):=by show _=_;rw[B.out,if_pos R.out]
     have F:=b.trans ((f.trans (r.mono f.size)).mono gb);have sw:l.length*40≤140737488355328:=by have:=g9.out;omega
     clear a o B bad s0;go_upto_region 21 with fail;refine Zr [3,4] (.q 0 (.q 1 (.q 2 (.l 3 (.qc 4 .nil))))) fun W9 J=>?_
     repeat((first|refine pq (h:=⟨_,fun w' hS=>by(have hx:=sr.kept hS;have x0:=hx.cell 0;have x1:=hx.cell 1;have x2:=hx.cell 2;simp at x0 x1 x2;go_simp;exact rfl),?_⟩)|refine Zq ?_);simp only[sx])
     refine Zc fun K G=>?_
     try simp only[sy]
     refine Zh 3 (h8.kept J) ?_;intro w10 u x;have u:Blk w10 (w.heap.size+1) 85 #[.int .i64 S.author,.int .i64 S.round,.slice dA S.digest.length dc]:=u;have hz:=V.size;have hh:=hf.size;have C:=(U.kept (RFrom.mono RSlot.mono) J).low RSlot.mono x (by omega);have M:=t.trans (J.mono (t).size);have Y:Below w.heap.size w w10:=Zab M M.size x (by intro k e;injection e;omega);have P:=F.trans (J.mono (F).size);have rd10:=rd.mono (Zip (b':=w.heap.size) P x (by omega) (fun k hk=>(C.lt k hk).1) (by omega));have rl10:=C.lower RSlot.mono (b':=w.heap.size) (by omega);refine G.out _ _ ?_;clear G K
     try simp only[sx]
     repeat(refine Zq ?_;simp only[sx])
     refine Zai ?_;clear hz hh rd C;go_wp2;refine bodyPost_ret (Zbo rfl rfl (by kernel_rfl) (by kernel_rfl) u rfl) rfl ?_
     exact⟨_,_,by rw[R.out,HQ.out]<;>rfl,Y,by rw[HL.out];exact rl10,by rw[HQ.out];exact rd10⟩
namespace Fl
theorem Zx1{T:Nat×Nat→Prop}{o:Own}(i:Lim o w)(c:Below w.heap.size w W)(j:w.heap.size≤b)(e:b<W.heap.size):Fr T o w (mark o b (some (7,b))) W:=by
 have g:=Fr.of_below (T:=T) i c;refine⟨c.os,c.tape,c.output,c.size,g.lim.mark e (fun k a=>by injection a with a;injection a with _ a;exact a.symm),fun x f hn=>?_,fun x t' f d hT=>⟨t',by rw[Zb1 _ _ (by omega)];exact d,hT⟩⟩;rw[Zb1 _ _ (by omega)];exact g.keep x f hn
theorem Zjf(G:Mono R){o:Own}{B:Nat}(l:Lim o w)(f:Below w.heap.size w w')(E:w.heap.size≤B)(h:OwnSl sz (RFrom B R) e w' B v xs)(t:Nat×Nat)(J:∀g k,v.ownBlock=some g→t=(7,k)→k=g) :
 ∃o',Row o' t sz R e w' v xs∧(∀T,Fr T o w o' w')∧VLe (View.from (View.but w'.cell? v.ownBlock) w.heap.size) (Zas o' w')∧(∀b,some b≠v.ownBlock→o' b=o b):=by
 have n:=h.lt;cases hv:v.ownBlock with
 |none =>
  refine⟨o,⟨?_,fun g F=>by rw[hv]at F;cases F⟩,fun T=>Fr.of_below l f,?_,fun b _=>rfl⟩
  ·obtain⟨css,r,q,A⟩:=(h.base (b':=0) (Zf _)).own;refine⟨css,r,q,fun i hi=>?_⟩;obtain⟨cs,q1,q2,q3⟩:=A i hi;refine⟨cs,q1,q2,G _ _ _ _ q3 ?_⟩;rw[hv];intro a u hu;exact Zbz l a u (Zbm E a u hu)
  ·intro a u hu;exact Zbz l a u hu
 |some g =>
  obtain⟨H,s⟩:=n g hv
  have m:∀T,Fr T o w (mark o g (some t)) w':=fun T=>by
   have m:=Fr.of_below (T:=T) l f;refine⟨f.os,f.tape,f.output,f.size,m.lim.mark s (fun k y=>by injection y with y;exact J g k hv y),fun x D hn=>?_,fun x t' D z hT=>⟨t',by rw[Zb1 _ _ (by omega)];exact z,hT⟩⟩;rw[Zb1 _ _ (by omega)];exact m.keep x D hn
  have c:VLe (View.from (View.but w'.cell? (some g)) w.heap.size) (Zas (mark o g (some t)) w'):=fun a u hu=>by
   unfold View.from at hu;split at hu
   ·cases hu
   ·rename_i I;unfold View.but at hu;split at hu
    ·cases hu
    ·rename_i j;have p:a.block≠g:=fun e=>j (by rw[e])
     unfold Zas;rw[Zb1 _ _ p,l.none a.block (by omega)];simpa using hu
  refine⟨mark o g (some t),⟨?_,fun g' d=>by rw[hv]at d;injection d with d;rw[←d];exact Zc9 _ _ _⟩,m,c,fun b C=>Zb1 _ _ (fun e=>C (by rw[e]))⟩;obtain⟨css,r,q,A⟩:=(h.base (b':=0) (Zf _)).own;refine⟨css,r,q,fun i hi=>?_⟩;obtain⟨cs,q1,q2,q3⟩:=A i hi;refine⟨cs,q1,q2,G _ _ _ _ q3 ?_⟩;rw[hv];exact fun a u hu=>c a u (Zbm E a u hu)
theorem Zlj(r:Mono R){o:Own}{t:Nat×Nat}(m:Lim o w)(h:Row o t sz R e w v xs)(t':Nat×Nat)(n:t'.1≠7) :
 ∃o',Row o' t' sz R e w v xs∧Fr (fun x=>(x=t∧v.ownBlock≠none)∨x=t') o w o' w:=by
 cases hv:v.ownBlock with
 |none=>exact⟨o,⟨h.own,fun g j=>by rw[hv]at j;cases j⟩,Fr.refl _ m⟩
 |some g =>
  have p:=h.mark g hv;have f:=h.lt g hv
  have l:Fr (fun x=>x=t∨x=t') o w (mark o g (some t')) w:=by
   refine⟨rfl,rfl,rfl,Za _,m.mark f (fun k d=>by injection d with d;rw[d]at n;exact absurd rfl n),fun b z hn=>⟨?_,rfl⟩,fun b x z c hT=>?_⟩
   ·by_cases e:b=g
    ·subst e;exact absurd (.inl rfl) (hn t p)
    ·exact Zb1 _ _ e
   ·by_cases e:b=g
    ·subst e;exact⟨t',Zc9 _ _ _,.inr rfl⟩
    ·exact⟨x,by rw[Zb1 _ _ e];exact c,hT⟩
  refine⟨_,⟨?_,fun g' a=>by rw[hv]at a;injection a with a;rw[←a];exact Zc9 _ _ _⟩,l.mono (fun x q=>q.imp (fun h=>⟨h,by simp⟩) id)⟩;obtain⟨css,s,y,u⟩:=h.own;refine⟨css,s,y,fun i hi=>?_⟩;obtain⟨cs,q1,q2,q3⟩:=u i hi;exact⟨cs,q1,q2,r _ _ _ _ q3 l.view⟩
def pend(v:Value):Nat×Nat:=(7,v.ownBlock.getD 0)
theorem Zw2(v:Value):∀g k,v.ownBlock=some g→pend v=(7,k)→k=g:=fun g k a h=>by
 unfold pend at h
 rw[a]at h
 injection h with _ h
 exact h.symm
theorem Zw3{B:Nat}(h:∀q,v.ownBlock=some q→B≤q)(hn:v.ownBlock≠none):B≤(pend v).2:=by
 cases hv:v.ownBlock with
 |none=>exact absurd hv hn
 |some g=>unfold pend;rw[hv];exact h g hv
theorem NdR.ta2{T:Nat×Nat→Prop}{o o':Own}{v:Vals}(h:NdR o w i n v)(f:Fr T o w o' w')(hT:∀k,k≠3→¬T (i,k)){xs:List Slot}(r:Row o' (i,3) 3 RSlot 85 w' u xs):NdR o' w' i {n with table:=xs } {v with ta:=u } :=
 ⟨h.tx.mono f.view,h.small,h.ba.fr RBat.mono f (hT _ (by decide)),h.di.fr Ze f (hT _ (by decide)),r,h.da.mono RCrt.mono f.view,h.ow.mono f.view,h.mi.mono f.view,h.vo.fr RI.mono f (hT _ (by decide)),h.tp.mono f.view,h.ou.fr RMsgZ.mono f (hT _ (by decide))⟩
theorem Ztb{s:Slot}{vd:Value}(r:Zan h vd s.digest):RMsg h (votM s) (.slice none 0 0) (.slice none 0 0) (.slice none 0 0) vd (.slice none 0 0) (.slice none 0 0) (.slice none 0 0) :=
 ⟨RVec.nil _ _ _,RDigs.nil _,RDigs.nil _,r,RDigs.nil _,RDigs.nil _,RVec.nil _ _ _⟩
end Fl
theorem Zo6(h:dagF hD cF l=0):Lone l∧Auth l∧l.length≤400∧(∀c∈l,hF c.hdr=0):=by
 obtain⟨b,f,d⟩:=dagF_zero h;refine⟨Zyt d,fun c e=>?_,b,(Zit h).2⟩;have a:=(Zit h).2 c e;unfold hF Zb5 at a;split at a
 ·rename_i b;simp[inB]at b;omega
 ·cases a
def RAt(w0:World):View→List Value→Crt→Prop:=fun _ cs x=>RCrt w0.cell? cs x
theorem RAt.mono(w0:World):Mono (RAt w0):=fun _ _ _ _ h _=>h
theorem Zqr(l:List Crt)(r:Int)(a:k<l.length):Zbr (l.take (k+1)) r=Zbr (l.take k) r++(if l[k].hdr.round==r then [l[k]]else []):=by
 unfold Zbr;rw[Zn a,List.filter_append]
 congr 1
 by_cases h:l[k].hdr.round==r<;>simp[List.filter,h]
theorem Zq1(v:Value)(l:List Crt)(r:Int)(w:World)(M:RCrts w.cell? v l)(T:Lone l)(O:Auth l)(U:l.length≤400) :
 Calls prog 108 #[v,.int .i64 r] w fun e w'=>∃v',e=.returned v'∧Below w.heap.size w w'∧RCrts w'.cell? v' (Zbu l r):=by
 obtain⟨A,c,rfl,m⟩:=id M;clear m;obtain⟨_,X,Z,C⟩:=RCrts.at M;have u:=Zb C;have P:=Zb U;have g:=Zb (And.intro T O);clear C M U T O;go_enter func108,ntmps108;go_wp2_with fail
 go_loopw [5,7,10] (fun v _ i wr=>∃k:Nat,k≤l.length∧i=.int .i64 k∧OwnSl 5 (RAt w) 79 wr w.heap.size v (Zbr (l.take k) r)∧Below w.heap.size w wr) (fun _ _ i _=>l.length-(intOf i).toNat)
 case atStart=>exact⟨0,Zf _,rfl,OwnSl.nil _ _ _ _ _,Zm _ _⟩
 case round =>
  obtain⟨k,hk,rfl,a,d⟩:=hrel;have J:=d.size
  by_cases p:k<l.length
  ·obtain⟨b0,o0,ub,up,uv,rfl,q0,q1,q2,q3,q4,rb,rp,rv⟩:=u.out k p;have c0:=Zaa d _ _ q0;have c1:=Zaa d _ _ q1;have c2:=Zaa d _ _ q2;have c3:=Zaa d _ _ q3;have c4:=Zaa d _ _ q4;have B:=Zb (Zqr l r p);have s:=Zb (show(Zbr (l.take k) r).length≤k by unfold Zbr;have:=List.length_filter_le (fun c:Crt=>c.hdr.round==r) (l.take k);simp at this ⊢;omega);obtain⟨E1A,E1c,rfl,E⟩:=id rb;obtain⟨E2A,E2c,rfl,F⟩:=id rp;obtain⟨E3A,E3c,rfl,K⟩:=id rv;have Y:RAt w (View.but w.cell? none) [.int .i64 l[k].hdr.author,.int .i64 l[k].hdr.round,.slice E1A l[k].hdr.batches.length E1c,.slice E2A l[k].hdr.parents.length E2c,.slice E3A l[k].voters.length E3c] l[k]:=⟨_,_,_,rfl,rb,rp,rv⟩;clear q0 q1 q2 q3 q4 rb rp rv E F K;generalize Zbr (l.take k) r=L at a B s;generalize l[k]=y at *;go_upto_region 5 with fail;refine Zo fun W2 t I D=>?_
   have f:=d.trans (D.mono J);have b:=a.kept (RAt.mono w) D;have x0:=t.cell 0;have x1:=t.cell 1;have x2:=t.cell 2;have x3:=t.cell 3;have x4:=t.cell 4;simp at x0 x1 x2 x3 x4;clear I a c0 c1 c2 c3 c4
   by_cases o:y.hdr.round=r
   ·have j:Hid (Zbr (l.take (k+1)) r=L++[y]):=by show _=_;rw[B.out];simp[o]
    have Q:=Zb (show L.length≤400 by have:=s.out;have:=P.out;omega);clear B;subst o;obtain⟨nA,nc,rfl⟩:=b.form;go_wp2_with (at_builtin;go_loud (refine Zaz (n:=140737488355328) (xs:=L) (R:=RAt w) (RAt.mono w) y [.int .i64 y.hdr.author,.int .i64 y.hdr.round,.slice E1A y.hdr.batches.length E1c,.slice E2A y.hdr.parents.length E2c,.slice E3A y.voters.length E3c] Zl1 _ _ rfl rfl rfl b f f.size rfl rfl rfl rfl Y (Za _) (by have:=Q.out;omega) (by have:=Q.out;omega) ?_));intro v' w2 N z _;rw[←j.out]at N;clear b x0 x1 x2 x3 x4;go_wp2;go_roundw
    case rel=>exact⟨k+1,by omega,by go_num,N,z⟩
    case measure=>simp[intOf];omega
   ·have j:Hid (Zbr (l.take (k+1)) r=L):=by show _=_;rw[B.out];simp[o]
    clear B;rw[←j.out]at b;go_wp2;go_roundw
    case rel=>exact⟨k+1,by omega,by go_num,b,f⟩
    case measure=>simp[intOf];omega
  ·have x:k=l.length:=by omega
   rw[x,List.take_length]at a;have S:Auth (Zbr l r):=fun c W=>g.out.2 c (List.mem_filter.1 W).1
   have V:(Zbr l r).length≤400:=by have:=List.length_filter_le (fun c:Crt=>c.hdr.round==r) l;have:=P.out;unfold Zbr;omega
   clear u x;obtain⟨LR,h⟩:∃q,Hid (Zbr l r=q):=⟨_,rfl⟩;rw[h.out]at a S V;obtain⟨nA,nc,rfl⟩:=a.form;go_wp2_with fail;refine(Zpy _ LR _ w.heap.size a S V d (Za _)).mono ?_;rintro e w2 ⟨rfl,G,ys,hp,hs,o⟩;have H:ys=Zbu l r:=Zp7 g.out.1 g.out.2 (by rw[h.out];exact hp) hs;rw[H]at o;go_wp2;go_ret;exact⟨_,rfl,G,o⟩
theorem Zwu(a:Lone l)(c:Auth l)(h:∀j:Nat,j<k→3≤(Zbu l (1+j)).length):k≤l.length :=
 rounds_len k 1 fun j b=>by have:=h j b;rw[Zmm _ a c]at this;omega
theorem Zka(vl:Value)(l:List Crt)(w:World)(P:RCrts w.cell? vl l)(hT:Tabs w.cell?) :
 Calls prog 63 #[.agg #[vl]] w fun e w'=>e=.returned (.tuple #[.int .i64 (rndV l),.int .i64 (dagF hD cF l)])∧Below w.heap.size w w':=by
 obtain⟨A,c,rfl,p⟩:=id P;clear p;obtain⟨E,v⟩:∃q,Hid (dagF hD cF l=q):=⟨_,rfl⟩;obtain⟨V,J⟩:∃q,Hid (rndV l=q):=⟨_,rfl⟩;have G:Hid (V=if E=0 then Zu1 l else 0):=by show _=_;rw[←J.out];unfold rndV;rw[v.out]
 have a:Hid (E=0→Lone l∧Auth l∧l.length≤400∧(∀c∈l,hF c.hdr=0)):=fun h=>Zo6 (v.out.trans h)
 rw[J.out,v.out];clear J;go_enter func63,ntmps63;go_upto_region 1 with fail;refine Zo fun W T H g=>?_
 clear H;have O:=g.size;have g0:=T.cell 0;simp at g0;go_wp2_with fail;refine(Zfl _ l _ (P.mono RCrt.mono (Zaa g)) (hT.mono (Zaa g))).mono ?_;rintro e w1 ⟨rfl,y⟩;rw[v.out];have d:=g.trans (y.mono O);have t:=d.size;have S:=T.kept y;clear g0 v
 by_cases D:E=0
 rotate_left
 ·have R:Hid (V=0):=by show _=_;rw[G.out,if_neg D]
  clear G a;go_wp2;go_ret2;exact⟨by rw[R.out];rfl,d⟩
 have R:Hid (V=Zu1 l):=by show _=_;rw[G.out,if_pos D]
 have o:=Zb (a.out D);clear G a;subst D;go_wp2_with fail
 go_loopw [5] (fun i wr=>∃(k:Nat) (z:Int),i=.int .i64 z∧Hid (z=1+(k:Int))∧1≤z∧z≤401∧Hid (k≤l.length∧∀j:Nat,j<k→3≤(Zbu l (1+j)).length)∧Below w1.heap.size w1 wr) (fun i _=>500-(intOf i).toNat)
 case atStart=>exact⟨0,1,rfl,rfl,by omega,by omega,⟨Zf _,fun j X=>by omega⟩,Zm _ _⟩
 case round =>
  obtain⟨k,z,rfl,F,Y,I,C,f⟩:=hrel;have L:=S.kept f;have g0:=L.cell 0;simp at g0;have x:=d.trans (f.mono t);go_wp2_with fail;refine(Zq1 _ l z _ (P.mono RCrt.mono (Zaa x)) o.out.1 o.out.2.1 o.out.2.2.1).mono ?_;rintro e w2 ⟨v2,rfl,M,r2⟩;have n:=f.trans (M.mono f.size);obtain⟨N,hN⟩:∃N,Hid ((Zbu l z).length=N):=⟨_,rfl⟩;obtain⟨A2,c2,s,_⟩:=r2;rw[hN.out]at s;subst s;have U:Hid (N=(Zbu l (1+(k:Int))).length):=by show _=_;rw[←hN.out,F.out]
  clear hN g0
  by_cases h3:(3:Int)≤(N:Int)
  ·have m:Hid (∀j:Nat,j<k+1→3≤(Zbu l (1+j)).length):=fun j X=>by
    by_cases e:j=k
    ·subst e;have:=U.out;omega
    ·exact C.out.2 j (by omega)
   have u:=Zwu o.out.1 o.out.2.1 m.out;have Q:z+1≤401:=by have:=F.out;have:=o.out.2.2.1;omega
   have r:Hid (z+1=1+((k+1:Nat):Int)):=by show _=_;have:=F.out;omega
   obtain⟨z2,B⟩:∃z2,z+1=z2:=⟨_,rfl⟩;have b:=Zb B;have Z:IntKind.i64.wrap (z+1)=z2:=by rw[IntKind.wrap_i64];omega
   clear B;go_wp2;go_roundw
   case rel=>exact⟨k+1,_,rfl,by first|exact r|(show _=_;rw[←b.out];exact r.out),by have:=b.out;omega,by have:=b.out;omega,⟨u,m.out⟩,n⟩
   case measure=>have:=b.out;simp[intOf];omega
  ·have K:Hid (V=z):=by
    show _=_;rw[R.out,nextR_is o.out.1 o.out.2.1 C.out.2 (by have:=U.out;omega)];exact F.out.symm
   go_wp2;go_ret2;exact⟨by rw[K.out];rfl,d.trans (n.mono t)⟩
theorem Zl5(vl:Value)(l:List Crt)(r:Int)(w:World)(hl:RCrts w.cell? vl l)(hT:Tabs w.cell?) :
 Calls prog 200 #[.agg #[vl],.int .i64 r] w fun e w'=>∃d,e=.returned (.tuple #[d,.int .i64 (dagF hD cF l)])∧Below w.heap.size w w'∧RDigs (View.from w'.cell? w.heap.size) d (digV l r):=by
 obtain⟨A,c,rfl,f⟩:=id hl;clear f;obtain⟨E,H⟩:∃q,Hid (dagF hD cF l=q):=⟨_,rfl⟩;obtain⟨V,hV⟩:∃q,Hid (digV l r=q):=⟨_,rfl⟩;have U:Hid (V=if E=0 then dsOf hD (Zbu l r)else []):=by show _=_;rw[←hV.out];unfold digV;rw[H.out]
 have b:Hid (E=0→Lone l∧Auth l∧l.length≤400∧(∀c∈l,hF c.hdr=0)):=fun h=>Zo6 (H.out.trans h)
 rw[hV.out,H.out];clear hV;go_enter func200,ntmps200;go_upto_region 1 with fail;refine Zo fun W X h1 t=>?_
 clear h1;have h7:=t.size;have g0:=X.cell 0;simp at g0;go_wp2_with fail;refine(Zfl _ l _ (hl.mono RCrt.mono (Zaa t)) (hT.mono (Zaa t))).mono ?_;rintro e w1 ⟨rfl,M⟩;rw[H.out];have j:=t.trans (M.mono h7);have h2:=j.size;have Q:=X.kept M;clear g0 H
 by_cases S:E=0
 rotate_left
 ·have D:Hid (V=[]):=by show _=_;rw[U.out,if_neg S]
  clear U b;go_wp2;go_ret2;exact⟨_,rfl,j,by rw[D.out];exact RDigs.nil _⟩
 have D:Hid (V=dsOf hD (Zbu l r)):=by show _=_;rw[U.out,if_pos S]
 have C:=Zb (b.out S);clear U b;subst S;have g0:=Q.cell 0;simp at g0;go_wp2_with fail;refine(Zq1 _ l r _ (hl.mono RCrt.mono (Zaa j)) C.out.1 C.out.2.1 C.out.2.2.1).mono ?_;rintro e w2 ⟨v2,rfl,h6,r2⟩;have o:=j.trans (h6.mono h2);have N:=o.size;have T:Hid ((Zbu l r).length≤4∧∀c∈Zbu l r,hF c.hdr=0):=⟨Zvt l r,fun c hc=>C.out.2.2.2 c (List.mem_filter.1 ((Zh0 C.out.1 C.out.2.1).1 hc)).1⟩;generalize Zbu l r=R at r2 D T;obtain⟨A2,c2,rfl,hf⟩:=id r2;obtain⟨_,hp,hv,P⟩:=RCrts.at r2;have h3:=Zb P;clear P hf g0 Q X;have hq:=T.out.1;go_wp2_with fail
 go_loopw [7,9,20] (fun v _ i wr=>∃k:Nat,k≤R.length∧i=.int .i64 k∧OwnSl 1 (RFrom w2.heap.size RDig) 53 wr w2.heap.size v (dsOf hD (R.take k))∧Below w2.heap.size w2 wr) (fun _ _ i _=>R.length-(intOf i).toNat)
 case atStart=>exact⟨0,Zf _,rfl,OwnSl.nil _ _ _ _ _,Zm _ _⟩
 case round =>
  obtain⟨k,X,rfl,a,s⟩:=hrel;have h9:=s.size
  by_cases z:k<R.length
  ·obtain⟨b0,o0,ub,up,uv,rfl,q0,q1,q2,q3,q4,rb,rp,rv⟩:=h3.out k z;have q:=Zaa s;have c0:=q _ _ q0;have c1:=q _ _ q1;have c2:=q _ _ q2;have c3:=q _ _ q3;have c4:=q _ _ q4;have F:=Zb (T.out.2 R[k] (List.getElem_mem z));have Hn:=Zb (show dsOf hD (R.take (k+1))=dsOf hD (R.take k)++[hD R[k].hdr] by unfold dsOf;rw[Zn z,List.map_append,List.map_singleton]);have B:=Zb (show(dsOf hD (R.take k)).length≤4 by unfold dsOf;simp;omega);obtain⟨E1A,E1c,rfl,Z⟩:=id rb;obtain⟨E2A,E2c,rfl,h5⟩:=id rp;obtain⟨E3A,E3c,rfl,ha⟩:=id rv;have rb':=rb.mono Ze q;have rp':=rp.mono Ze q;clear q0 q1 q2 q3 q4 rb rp rv Z h5 ha;generalize dsOf hD (R.take k)=L at a Hn B;generalize R[k]=x at *;go_upto_region 8 with fail;refine Zo fun W3 G h8 u=>?_
   have m:=s.trans (u.mono h9);have O:=a.lt;have x0:=G.cell 0;have x1:=G.cell 1;have x2:=G.cell 2;have x3:=G.cell 3;have x4:=G.cell 4;simp at x0 x1 x2 x3 x4;have qX:=Zaa u;have ht:=u.size;clear h8 c0 c1 c2 c3 c4;go_wp2_with fail;refine(Znw x _ _ _ _ (rb'.mono Ze qX) (rp'.mono Ze qX) (hT.mono (Zaa (o.trans (m.mono N))))).mono ?_;rintro e w4 ⟨d,rfl,I,Y⟩;rw[Zlv F.out]at Y;have p:=(a.kept (RFrom.mono Ze) u).kept (RFrom.mono Ze) I;have y:=m.trans (I.mono m.size)
   have hR:RFrom w2.heap.size RDig (View.but w4.cell? u7.ownBlock) [d] (hD x.hdr) :=
    ⟨d,rfl,Y.mono (Zbb (by have:=m.size;omega) (fun g hg=>by have:=(O g hg).2;omega))⟩
   obtain⟨A',c',rfl,f⟩:=id Y;clear f x0 x1 x2 x3 x4 rb' rp' Y a;go_wp2_with (at_builtin;go_loud (refine Zaz (n:=140737488355328) (RFrom.mono Ze) (hD x.hdr) [.slice A' (hD x.hdr).length c'] Ze2 _ _ rfl rfl rfl p y y.size rfl rfl rfl rfl hR (Za _) (by have:=B.out;omega) (by have:=B.out;omega) ?_));intro v' w5 ho J _;rw[←Hn.out]at ho;clear p hR;go_wp2;go_roundw
   case rel=>exact⟨k+1,by omega,by go_num,ho,J⟩
   case measure=>simp[intOf];omega
  ·have K:k=R.length:=by omega
   rw[K,List.take_length,←D.out]at a;have hw:V.length≤4:=by rw[D.out,Zhd];exact T.out.1
   have rV:=(a.reads_from (bs:=24) Ze (by omega)).mono Ze (Zbm (b':=w.heap.size) (by omega));obtain⟨A3,c3,rfl,hf⟩:=id rV;clear hf a K D;go_wp2;go_ret2;exact⟨_,rfl,o.trans (s.mono N),rV⟩
end Go.Proofs.YtbcpbnfojfiekaaGreatDoor
