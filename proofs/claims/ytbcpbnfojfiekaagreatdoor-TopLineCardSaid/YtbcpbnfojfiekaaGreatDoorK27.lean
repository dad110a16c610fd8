/- A part of what the last text stands on. -/
import Derived.Test.YtbcpbnfojfiekaaGreatDoorK26
namespace Go.Proofs.YtbcpbnfojfiekaaGreatDoor
open Go.ChangeShapes Go.WideShapes Go.ChangeAt Go.RowKit Go.Proofs.Tryz Qa Qb Qc
set_option linter.all false
set_option maxHeartbeats 20000000
set_option maxRecDepth 100000
variable{w w':World}{j g b:Nat}{n:Fl.Nd}
namespace Fl
theorem Ziq(f:w.grownBy w' (some g))(i:g<b)(q:Option Nat):VLe (View.from (View.but w.cell? q) b) (View.from (View.but w'.cell? q) b):=fun a v e=>by
 unfold View.from at e⊢
 split at e
 ·cases e
 ·rename_i d
  rw[if_neg d]
  unfold View.but at e⊢
  split at e
  ·cases e
  ·rename_i c
   rw[if_neg c]
   exact f.cell e (by intro h;injection h;omega)
theorem Zy9(i tb g off:Nat)(n:Nd)(h:Hdr)(vb vp:Value)(o:Own)(w:World)(hl:Lim o w)(hi:i<5)(hN:NodeAt o w i tb g off n)(hT:Tabs (Zas o w))(rb:RDigs (Zas o w) vb h.batches)(rp:RDigs (Zas o w) vp h.parents)(gp:n.table.length≤400) :
 Calls prog 137 #[.pointer (some ⟨g,off,none⟩),.agg #[.int .i64 h.author,.int .i64 h.round,vb,vp]] w fun e w'=>∃sd,e=.returned (.tuple #[.agg #[.int .i64 (Zcz n.table h).author,.int .i64 (Zcz n.table h).round,sd],.bool (vote n h).2])∧∃o',NFr i tb g off o w o' w'∧NodeAt o' w' i tb g off (vote n h).1∧Zan (Zas o' w') sd (Zcz n.table h).digest:=by
 obtain⟨gn,⟨vtx,vba,vdi,vta,vda,vow,vmi,vvo,vtp,vou⟩,J,hR⟩:=id hN;have hg:=J.lt;obtain⟨bA,bc,rfl,ga⟩:=id rb;obtain⟨pA,pc,rfl,g6⟩:=id rp;clear ga g6;have rta:RSlots w.cell? vta n.table:=hR.ta.reads (bs:=40) RSlot.mono (by omega);obtain⟨taA,tac,ha⟩:=hR.ta.form;have ha:vta=.slice taA n.table.length tac:=ha;subst ha;obtain⟨QE,he⟩:∃q,Hid (Ze5 n.table h=q):=⟨_,rfl⟩;obtain⟨QL,hm⟩:∃q,Hid (Zc6 n.table h=q):=⟨_,rfl⟩;obtain⟨QS,I⟩:∃q,Hid (Zcz n.table h=q):=⟨_,rfl⟩
 have hy:Hid (vote n h=if QE≠0 then(n,false)else if n.table.length<QL.length then(if Zfr n (votM QS)=0 then({ kept n (votM QS)with table:=QL },true)else(n,false))else({ n with table:=QL },true)):=by
  show _=_;unfold Fl.vote;rw[he.out,hm.out,I.out]
 rw[hy.out,I.out];clear hy;go_enter func137,ntmps137;go_upto_region 1 with fail;refine Za8 _ _ _ _ _ (fun W=>Code.wp _ _ _ _ W) (fun W hk hw gr hb=>?_);have F:=Zx1 (T:=fun _=>False) hl hb (b:=w.heap.size+1) (by omega) (by omega);have g7:=Zc9 o (w.heap.size+1) (some (7,w.heap.size+1));have N1:=hN.fr F (fun _ h=>h) (fun h=>h);have rb1:=rb.mono Ze F.view;have rp1:=rp.mono Ze F.view;have T1:=hT.mono F.view;have l1:=F.lim;have F1:NFr i tb g off o w (mark o (w.heap.size+1) (some (7,w.heap.size+1))) W:=⟨F.mono (fun _ h=>h.elim),.of_same fun hg=>hb.block g hg⟩;have s6:=Zaa hb _ _ J.nd6;simp only at s6;have rta1:=rta.mono RSlot.mono (Zaa hb);clear J hR rta rb rp hT hN F;generalize mark o (w.heap.size+1) (some (7,w.heap.size+1))=o1 at *
 go_cut [6,7,8] (fun tv p e w'=>∃gb sd tA2 tc2,tv=.slice tA2 QL.length tc2∧p=.pointer (some ⟨gb,0,none⟩)∧e=.int .i64 QE∧Blk w' gb 85 #[.int .i64 QS.author,.int .i64 QS.round,sd]∧Below W.heap.size W w'∧W.heap.size≤gb∧some gb≠(Value.slice tA2 QL.length tc2).ownBlock∧OwnSl 3 (RFrom W.heap.size RSlot) 85 w' W.heap.size (.slice tA2 QL.length tc2) QL∧Zan (View.from (View.but w'.cell? (Value.slice tA2 QL.length tc2).ownBlock) W.heap.size) sd QS.digest)
 case first =>
  refine Zr [13] (.q 0 (.q 1 (.q 2 (.q 3 (.q 4 (.alt 5 (.q 6 (.q 7 (.q 8 (.q 9 (.l 10 (.q 11 (.l 12 (.qc 13 .nil)))))))) 10 (.l 5 (.q 6 (.q 7 (.q 8 (.q 9 (.q 11 (.l 12 (.qc 13 .nil)))))))))))))) fun W3 y=>?_
  repeat((first|refine pq (h:=⟨_,fun w' J=>by(have h1:=Zaa J _ _ s6;have hx:=hk.kept J;have h2:=hx.cell 0;have h3:=hx.cell 1;have Z:=hx.cell 2;have h5:=hx.cell 3;simp at h2 h3 Z h5;go_simp;exact rfl),?_⟩)|refine Zq ?_);simp only[sx])
  refine Zcm ?_ ?_
  ·refine Zd fun K B=>?_
   try simp only[sy]
   go_simp;have q3:=Zaa y;refine(Zgy _ n.table h _ _ _ (rta1.mono RSlot.mono q3) ((rb1.mono Ze (Zah _ _)).mono Ze q3) ((rp1.mono Ze (Zah _ _)).mono Ze q3) ((T1.mono (Zah _ _)).mono q3)).mono ?_;rintro e w5 ⟨d5,sd,rfl,X,od5,rd5⟩;rw[he.out,I.out];rw[hm.out]at od5;rw[I.out]at rd5;have d:=y.trans (X.mono y.size);obtain⟨A5,c5,rfl⟩:=od5.form;have M:=od5.lt;obtain⟨sA,sc,rfl,hn⟩:=id rd5;clear hn;refine B.out _ _ (d) fun J=>?_
   clear B K
   try simp only[sx]
   repeat(refine Zq ?_;simp only[sx])
   refine Zd fun K B=>?_
   try simp only[sy]
   go_simp;have hj:=Blk.new w5 85 #[.int .i64 0,.int .i64 0,.slice none 0 0];have v:=Zac w5 (.cells #[.int .i64 0,.int .i64 0,.slice none 0 0] 85);have A:=d.trans (v.mono d.size);have D:=d.size;refine B.out _ _ (A) fun J=>?_
   clear B K
   try simp only[sx]
   repeat(refine Zq ?_;simp only[sx])
   refine Zd fun K B=>?_
   try simp only[sy]
   refine Zh 3 hj ?_;intro w7 m a;have P:Below w5.heap.size w5 w7:=Zab v v.size a (by intro k e;injection e;omega);have O:Below W.heap.size W w7:=d.trans (P.mono d.size);have od7:=(od5.kept (RFrom.mono RSlot.mono) P).lower RSlot.mono y.size;have rd7:=(rd5.mono (Za0 _ (Zmh P _))).mono (Zbm (b':=W.heap.size) y.size);refine B.out _ _ (O) fun J=>?_
   clear B K
   try simp only[sx]
   repeat(refine Zq ?_;simp only[sx])
   refine Zai ?_;go_wp2_with fail;go_meet;exact⟨_,_,A5,c5,rfl,rfl,rfl,m,O,D,fun e=>by have:=(M _ e.symm).2;omega,od7,rd7⟩
  ·refine Zd fun K B=>?_
   try simp only[sy]
   go_simp;have hj:=Blk.new W3 85 #[.int .i64 0,.int .i64 0,.slice none 0 0];have v:=Zac W3 (.cells #[.int .i64 0,.int .i64 0,.slice none 0 0] 85);have A:=y.trans (v.mono y.size);have D:=y.size;have h0:W3.heap.size<(W3.alloc (.cells #[.int .i64 0,.int .i64 0,.slice none 0 0] 85)).heap.size:=by simp
   refine B.out _ _ (A) fun J=>?_
   clear B K
   try simp only[sx]
   repeat(refine Zq ?_;simp only[sx])
   refine Zd fun K B=>?_
   try simp only[sy]
   go_simp;have q3:=Zaa A;refine(Zgy _ n.table h _ _ _ (rta1.mono RSlot.mono q3) ((rb1.mono Ze (Zah _ _)).mono Ze q3) ((rp1.mono Ze (Zah _ _)).mono Ze q3) ((T1.mono (Zah _ _)).mono q3)).mono ?_;rintro e w5 ⟨d5,sd,rfl,X,od5,rd5⟩;rw[he.out,I.out];rw[hm.out]at od5;rw[I.out]at rd5;have d:=A.trans (X.mono A.size);have g8:=hj.kept X;have M:=od5.lt;obtain⟨A5,c5,rfl⟩:=od5.form;obtain⟨sA,sc,rfl,hn⟩:=id rd5;clear hn;refine B.out _ _ (d) fun J=>?_
   clear B K
   try simp only[sx]
   repeat(refine Zq ?_;simp only[sx])
   refine Zd fun K B=>?_
   try simp only[sy]
   refine Zh 3 g8 ?_;intro w7 m a;have O:Below W.heap.size W w7:=Zab d d.size a (by intro k e;injection e;omega);have od7:=(od5.low RSlot.mono a h0).lower RSlot.mono (b':=W.heap.size) A.size;have rd7:=(rd5.mono (Ziq a h0 _)).mono (Zbm (b':=W.heap.size) A.size);refine B.out _ _ (O) fun J=>?_
   clear B K
   try simp only[sx]
   repeat(refine Zq ?_;simp only[sx])
   refine Zai ?_;go_wp2_with fail;go_meet;exact⟨_,_,A5,c5,rfl,rfl,rfl,m,O,D,fun e=>by have:=(M _ e.symm).1;omega,od7,rd7⟩
 case rest =>
  obtain⟨gb,sd,tA2,tc2,rfl,rfl,rfl,hB,hv,D,hf,od,rd⟩:=hcut;obtain⟨o2,row2,hz,U,hr⟩:=Zjf RSlot.mono l1 hv (Za _) od (pend (.slice tA2 QL.length tc2)) (Zw2 _);have Y:(Value.slice tA2 QL.length tc2).ownBlock≠none→w.heap.size+2≤(pend (.slice tA2 QL.length tc2)).2:=Zw3 fun q hq=>by have:=(od.lt q hq).1;omega
  have f2:=hz (fun _=>False);have N2:=N1.fr f2 (fun _ h=>h) (fun h=>h);have F2:=F1.step N1.mark f2 (fun _ h=>h.elim) (by omega);have rsd:=rd.mono U;have x:o2 (w.heap.size+1)=some (7,w.heap.size+1):=(hr _ (fun e=>by have:=(od.lt _ e.symm).1;omega)).trans g7;have C:o2 gb=none:=(hr gb hf).trans (l1.none gb D);have f:=hw.kept hv;have l2:=f2.lim;obtain⟨g4,⟨ytx,yba,ydi,yta,yda,yow,ymi,yvo,ytp,you⟩,S2,R2⟩:=id N2;obtain⟨ta2,tac2,L⟩:=R2.ta.form;have L:yta=.slice ta2 n.table.length tac2:=L;subst L;have s6:=S2.nd6;have b0:=hB.cell 0;have b1:=hB.cell 1;have b2:=hB.cell 2;simp at b0 b1 b2;simp only at s6;clear S2 R2 N1 rb1 rp1 rta1 T1 l1 F1 hk hw f2 hz U od rd;obtain⟨sA,sc,rfl,g3⟩:=id rsd;clear g3
  by_cases hE:QE=0
  rotate_left
  ·have gi:(QE==0)=false:=by simpa using hE
   go_wp2_with (refine Zj 3 f ?_);intro w4 c g9
   have f4:=Zap l2 g9 x;go_wp2;refine bodyPost_ret (Zag rfl rfl (by kernel_rfl) (by kernel_rfl) c rfl) rfl ?_;refine⟨_,?_,o2,F2.step g4 f4 (fun t ht=>.inr ⟨by rw[ht],by rw[ht];exact Nat.le_succ _⟩) (by omega),?_,rsd.mono f4.view⟩
   ·first|rfl|(simp only[hE,ne_eq,not_false_eq_true,if_true];rfl)
   ·have:=N2.fr f4 (fun k e=>by injection e;omega) (by simp)
    first|exact this|(simp only[hE,ne_eq,not_false_eq_true,if_true];exact this)
  subst hE
  by_cases gg:n.table.length<QL.length
  ·have h9:(n.table.length:Int)<QL.length:=by omega
   go_wp2_with fail;refine(Zkq i tb g off n (votM QS) _ _ _ _ _ _ _ o2 _ l2 hi N2 (Ztb rsd) (fun s hs=>by cases hs)).mono ?_
   rintro e w4 ⟨rfl,o4,F34,N4⟩;have hc:Fl.keep n (votM QS)=if Zfr n (votM QS)=0 then(kept n (votM QS),true)else(n,false):=rfl
   have V:∀{q:Nat×Nat},q.1=7→¬(q=(8,tb)∨q.1=i):=fun h7 e=>by
    rcases e with e|e
    ·rw[e]at h7;cases h7
    ·omega
   have j:=Zn0 f F34.fr x (V rfl);have H:=Zb6 f.lt F34.fr x (V rfl);have c:=Za3 hB F34.fr C;have z:o4 gb=none:=((F34.fr.keep gb hB.lt (fun t ht=>by rw[C]at ht;cases ht)).1).trans C;have rsd4:=rsd.mono F34.fr.view;have row4:=row2.fr RSlot.mono F34.fr (V rfl);have l4:=F34.fr.lim;have F4:=F2.trans F34
   by_cases Z:Zfr n (votM QS)=0
   ·rw[hc,if_pos Z]at N4⊢;have H4:=Zb Z;clear N2 rsd hB f row2 l2 F2 F34 hc Z V b0 b1 b2 s6;obtain⟨o5,row5,f5⟩:=Zlj RSlot.mono l4 row4 (i,3) (by simp;omega);obtain⟨r,⟨ztx,zba,zdi,zta,zda,zow,zmi,zvo,ztp,zou⟩,S4,R4⟩:=N4
    have Q:∀{q:Nat×Nat},q.1≠7→q.1≠i→¬((q=pend (.slice tA2 QL.length tc2)∧(Value.slice tA2 QL.length tc2).ownBlock≠none)∨q=(i,3)):=fun h7 hh e=>by
     rcases e with ⟨e,_⟩|e
     ·exact h7 (by rw[e];rfl)
     ·exact hh (by rw[e])
    have S5:=S4.fr f5 r (Q (by simp) (by simp;omega));have m5:=Zb6 S4.lt f5 r (Q (by simp) (by simp;omega))
    have R5:=R4.ta2 f5 (fun k hk e=>by
     rcases e with ⟨e,_⟩|e
     ·have:=congrArg Prod.fst e;simp[pend]at this;(try omega)
     ·injection e with _ e;exact hk e) row5
    have F5:=F4.step r f5 (fun t ht=>by
     rcases ht with ⟨e,G⟩|e
     ·exact .inr ⟨by rw[e];rfl,by rw[e];have:=Y G;omega⟩
     ·exact .inl (by rw[e])) (by omega)
    have l5:=f5.lim;have N:o5 gb=none:=((f5.keep gb c.lt (fun t ht=>by rw[z]at ht;cases ht)).1).trans z
    have u:o5 (w.heap.size+1)=some (7,w.heap.size+1):=Zb6 j.lt f5 H (fun e=>by
     rcases e with ⟨e,G⟩|e
     ·have:=Y G;rw[←e]at this;simp at this;(try omega)
     ·have:=congrArg Prod.fst e;simp at this;try omega)
    have rsd5:=rsd4.mono f5.view;go_wp2_with (refine Sec.store S5 (i:=6) [.slice tA2 QL.length tc2] (show 6+1≤15 by decide) rfl rfl rfl rfl (by kernel_rfl) rfl rfl ?_);intro w6 S6 R h6;have f6:=Zap l5 R m5;have R6:=R5.fr f6 (fun k e=>by injection e;omega);have F6:=F5.store m5 R h6 (show 6+1≤15 by decide);have S6:=S6.putTa (xs:=QL);have E:=Za3 c f6 N;have S:=Zn0 j f6 u (by simp);have b0:=E.cell 0;have b1:=E.cell 1;have b2:=E.cell 2;simp at b0 b1 b2;have rsd6:=rsd5.mono f6.view;go_wp2_with (refine Zj 3 S ?_);intro w7 m a;have f7:=Zap f6.lim a u;have N7:NodeAt o5 w7 i tb g off {kept n (votM QS)with table:=QL }:=NodeAt.fr ⟨m5,_,S6,R6⟩ f7 (fun k e=>by injection e;omega) (by simp);have F7:=F6.step m5 f7 (fun t ht=>.inr ⟨by rw[ht],by rw[ht];exact Nat.le_succ _⟩) (by omega);go_wp2;refine bodyPost_ret (Zag rfl rfl (by kernel_rfl) (by kernel_rfl) m rfl) rfl ?_;simp only[H4.out,if_true];exact⟨_,rfl,o5,F7,N7,rsd6.mono f7.view⟩
   ·rw[hc,if_neg Z]at N4⊢;have H4:=Zb Z;have b0:=c.cell 0;have b1:=c.cell 1;have b2:=c.cell 2;simp at b0 b1 b2;have r:=N4.mark;go_wp2_with (refine Zj 3 j ?_);intro w7 m a;have f7:=Zap l4 a H;have N7:=N4.fr f7 (fun k e=>by injection e;omega) (by simp);have F7:=F4.step r f7 (fun t ht=>.inr ⟨by rw[ht],by rw[ht];exact Nat.le_succ _⟩) (by omega);go_wp2;refine bodyPost_ret (Zag rfl rfl (by kernel_rfl) (by kernel_rfl) m rfl) rfl ?_;simp only[Z,if_false];exact⟨_,rfl,o4,F7,N7,rsd4.mono f7.view⟩
  ·have h9:¬(n.table.length:Int)<QL.length:=by omega
   have N4:=N2;have j:=f;have H:=x;have c:=hB;have z:=C;have rsd4:=rsd;have row4:=row2;have l4:=l2;have F4:=F2;clear N2 f x hB C rsd row2 l2 F2;obtain⟨o5,row5,f5⟩:=Zlj RSlot.mono l4 row4 (i,3) (by simp;omega);obtain⟨r,⟨ztx,zba,zdi,zta,zda,zow,zmi,zvo,ztp,zou⟩,S4,R4⟩:=N4
   have Q:∀{q:Nat×Nat},q.1≠7→q.1≠i→¬((q=pend (.slice tA2 QL.length tc2)∧(Value.slice tA2 QL.length tc2).ownBlock≠none)∨q=(i,3)):=fun h7 hh e=>by
    rcases e with ⟨e,_⟩|e
    ·exact h7 (by rw[e];rfl)
    ·exact hh (by rw[e])
   have S5:=S4.fr f5 r (Q (by simp) (by simp;omega));have m5:=Zb6 S4.lt f5 r (Q (by simp) (by simp;omega))
   have R5:=R4.ta2 f5 (fun k hk e=>by
    rcases e with ⟨e,_⟩|e
    ·have:=congrArg Prod.fst e;simp[pend]at this;(try omega)
    ·injection e with _ e;exact hk e) row5
   have F5:=F4.step r f5 (fun t ht=>by
    rcases ht with ⟨e,G⟩|e
    ·exact .inr ⟨by rw[e];rfl,by rw[e];have:=Y G;omega⟩
    ·exact .inl (by rw[e])) (by omega)
   have l5:=f5.lim;have N:o5 gb=none:=((f5.keep gb c.lt (fun t ht=>by rw[z]at ht;cases ht)).1).trans z
   have u:o5 (w.heap.size+1)=some (7,w.heap.size+1):=Zb6 j.lt f5 H (fun e=>by
    rcases e with ⟨e,G⟩|e
    ·have:=Y G;rw[←e]at this;simp at this;(try omega)
    ·have:=congrArg Prod.fst e;simp at this;try omega)
   have rsd5:=rsd4.mono f5.view;go_wp2_with (refine Sec.store S5 (i:=6) [.slice tA2 QL.length tc2] (show 6+1≤15 by decide) rfl rfl rfl rfl (by kernel_rfl) rfl rfl ?_);intro w6 S6 R h6;have f6:=Zap l5 R m5;have R6:=R5.fr f6 (fun k e=>by injection e;omega);have F6:=F5.store m5 R h6 (show 6+1≤15 by decide);have S6:=S6.putTa (xs:=QL);have E:=Za3 c f6 N;have S:=Zn0 j f6 u (by simp);have b0:=E.cell 0;have b1:=E.cell 1;have b2:=E.cell 2;simp at b0 b1 b2;have rsd6:=rsd5.mono f6.view;go_wp2_with (refine Zj 3 S ?_);intro w7 m a;have f7:=Zap f6.lim a u;have N7:NodeAt o5 w7 i tb g off {n with table:=QL }:=NodeAt.fr ⟨m5,_,S6,R6⟩ f7 (fun k e=>by injection e;omega) (by simp);have F7:=F6.step m5 f7 (fun t ht=>.inr ⟨by rw[ht],by rw[ht];exact Nat.le_succ _⟩) (by omega);go_wp2;refine bodyPost_ret (Zag rfl rfl (by kernel_rfl) (by kernel_rfl) m rfl) rfl ?_;exact⟨_,rfl,o5,F7,N7,rsd6.mono f7.view⟩
theorem Zph{l:List (List UInt8)}(h:∀j (c:j<l.length),0≤held n l[j]):l.any (fun b=>decide (held n b<0))=false:=by
 rw[List.any_eq_false];intro x a;obtain⟨i,hi,rfl⟩:=List.getElem_of_mem a;have:=h i hi;simpa using this
theorem Zpg{l:List (List UInt8)}(a:j<l.length)(h:held n l[j]<0):l.any (fun b=>decide (held n b<0))=true:=by
 rw[List.any_eq_true];exact⟨l[j],List.getElem_mem a,by simpa using h⟩
theorem Zy8(n:Nd)(h:Hdr):(vote n h).1.out=n.out:=by
 unfold Fl.vote
 repeat' split
 all_goals rfl
theorem Zxa(i gf off:Nat)(n:Nd)(h:Hdr)(vb vp:Value)(rogue:Int)(signs:List Sign)(o:Own)(w:World)(V:Lim o w)(hi:i<5)(gp:1≤off)(gq:off+15≤61)(hG:SgAt o w gf rogue signs)(hN:NodeAt o w i 0 gf off n)(hT:Tabs (Zas o w))(rb:RDigs (Zas o w) vb h.batches)(rp:RDigs (Zas o w) vp h.parents)(hc:n.table.length≤400)(h8:n.digs.length≤800)(h4:n.out.length≤400) :
 Calls prog 95 #[.pointer (some ⟨gf,0,none⟩),.pointer (some ⟨gf,off,none⟩),.agg #[.int .i64 h.author,.int .i64 h.round,vb,vp]] w fun e w'=>e=.returned (.tuple #[])∧∃o',NFr i 0 gf off o w o' w'∧NodeAt o' w' i 0 gf off (offer signs rogue n h):=by
 obtain⟨bA,bc,rfl,gg⟩:=id rb;obtain⟨pA,pc,rfl,g7⟩:=id rp;clear gg g7;obtain⟨QM,ha⟩:∃q,Hid (Zr1 n.dag h=q):=⟨_,rfl⟩;obtain⟨QL,ho⟩:∃q,Hid (Zxe n.dag h=q):=⟨_,rfl⟩;obtain⟨QG,he⟩:∃q,Hid (signed signs rogue h.author ⟨h.author,h.round,hdR h⟩=q):=⟨_,rfl⟩;obtain⟨QB,R⟩:∃q,Hid (h.batches.any (fun b=>decide (held n b<0))=q):=⟨_,rfl⟩
 have h7:Hid (offer signs rogue n h=if h.author=n.me∨QG=false then n else if QM≠0∨0<QL.length then n else if QB then n else if (vote n h).2 then send (vote n h).1 h.author (votM (Zcz n.table h))else(vote n h).1):=by
  show _=_;unfold Fl.offer;rw[ha.out,ho.out,he.out,R.out]
 obtain⟨QR,S⟩:∃q,Hid (offer signs rogue n h=q):=⟨_,rfl⟩;have t:Hid (QR=if h.author=n.me∨QG=false then n else if QM≠0∨0<QL.length then n else if QB then n else if (vote n h).2 then send (vote n h).1 h.author (votM (Zcz n.table h))else(vote n h).1):=by show _=_;rw[←S.out];exact h7.out
 rw[S.out];clear h7 S;have H8:=Zb h8;have gb:=Zb hc;have H4:=Zb h4;clear h8 hc h4;have g4:=V.none w.heap.size (Za _);go_enter func95,ntmps95;go_upto_region 1 with fail;refine Zo fun W M s1 U=>?_
 have v1:=Zaf V U;have l1:=Zam V U;have N1:=hN.below V U;have G1:=hG.below V U;have rb1:=rb.mono Ze v1;have rp1:=rp.mono Ze v1;have T1:=hT.mono v1;have F1:NFr i 0 gf off o w o W:=(NFr.refl V).below U;have g0:=M.cell 0;have g1:=M.cell 1;have g2:=M.cell 2;have g3:=M.cell 3;simp at g0 g1 g2 g3;clear hN hG hT rb rp;go_wp2_with fail;refine(Zby h.author h.round _ _ h.batches h.parents _ (rb1.mono Ze (Zah _ _)) (rp1.mono Ze (Zah _ _)) (T1.mono (Zah _ _))).mono ?_;rintro e w2 ⟨dg,rfl,r,rd⟩;rw[show Zjq h.author h.round h.batches h.parents=hdR h from rfl]at rd;have v2:=Zaf l1 r;have l2:=Zam l1 r;have N2:=N1.below l1 r;have G2:=G1.below l1 r;have rb2:=rb1.mono Ze v2;have rp2:=rp1.mono Ze v2;have T2:=T1.mono v2;have rd2:=rd.mono (Zbz l1);have E:=M.kept r;have F2:=F1.below r;obtain⟨dA,dc,rfl,O⟩:=id rd2;clear O rd rb1 rp1 T1 N1 G1 v1 v2 g0 g1 g2 g3 M r l1 F1;obtain⟨DL,hz⟩:∃q,Hid ((hdR h).length=q):=⟨_,rfl⟩;rw[hz.out]at rd2⊢;obtain⟨gx,⟨vtx,vba,vdi,vta,vda,vow,vmi,vvo,vtp,vou⟩,S2,R2⟩:=id N2;have s0:=S2.nd0;go_wp2_with fail
 by_cases y:h.author=n.me
 ·have gc:(h.author==n.me)=true:=by simpa using y
  have N:=Zb y;clear y;refine Zr [] (.q 0 (.q 1 (.q 2 (.q 3 (.q 4 (.q 5 (.q 6 (.q 7 (.q 8 (.q 9 (.q 10 (.q 11 (.q 12 (.q 13 (.q 14 (.q 15 (.q 16 (.l 17 (.q 18 (.q 19 .nil)))))))))))))))))))) fun W3 a=>?_
  repeat((first|refine pq (h:=⟨_,fun w' C=>by(have D:=E.kept C;have G:=D.cell 0;have Z:=D.cell 1;have h3:=Zaa C _ _ s0;simp at G Z;go_simp;exact rfl),?_⟩)|refine Zq ?_);simp only[sx])
  refine Zai ?_;have N3:=N2.below l2 a;have F3:=F2.below a;have g:QR=n:=by rw[t.out,if_pos (.inl N.out)]
  have N3:NodeAt o W3 i 0 gf off QR:=by rw[g];exact N3
  clear g;go_wp2
  (try simp only[Exit.inBlock,Exit.then])
  refine bodyPost_ret (results_none rfl _ _ _) rfl ?_;exact⟨rfl,o,F3,N3⟩
 have gc:(h.author==n.me)=false:=by simpa using y
 have N:=Zb y;clear y
 go_cut [38] (fun v w'=>v=.bool (!QG)∧Below w2.heap.size w2 w')
 case first =>
  refine Zr [] (.q 0 (.q 1 (.q 2 (.q 3 (.q 4 (.q 5 (.q 6 (.q 7 (.q 8 (.q 9 (.q 10 (.q 11 (.q 12 (.q 13 (.q 14 (.q 15 (.q 16 (.l 17 (.q 18 (.q 19 .nil)))))))))))))))))))) fun W3 a=>?_
  repeat((first|refine pq (h:=⟨_,fun w' C=>by(have D:=E.kept C;have G:=D.cell 0;have Z:=D.cell 1;have h3:=Zaa C _ _ s0;simp at G Z;go_simp;exact rfl),?_⟩)|refine Zq ?_);simp only[sx])
  refine Zd fun K hK=>?_
  try simp only[sy]
  go_simp;refine(Zly gf rogue signs h.author ⟨h.author,h.round,hdR h⟩ _ o _ (G2.below l2 a) ((rd2.mono (Zaf l2 a)).mono (Zah _ _))).mono ?_;rintro e w4 ⟨rfl,J⟩;rw[he.out];have z:=a.trans (J.mono a.size);refine hK.out _ _ (z) fun C=>?_
  clear hK K
  try simp only[sx]
  repeat(refine Zq ?_;simp only[sx])
  refine Zai ?_;go_wp2_with fail;go_meet;exact⟨rfl,z⟩
 case rest =>
  obtain⟨rfl,p⟩:=hcut;have vc:=Zaf l2 p;have lc:=Zam l2 p;have Nc:=N2.below l2 p;have Gc:=G2.below l2 p;have rbc:=rb2.mono Ze vc;have rpc:=rp2.mono Ze vc;have Tc:=T2.mono vc;have I:=E.kept p;have Fc:=F2.below p;have s7:=Zaa p _ _ S2.nd7;have rda:=(R2.da.mono RCrt.mono vc).mono RCrt.mono (Zah _ _);clear N2 G2 rb2 rp2 T2 E F2 S2 R2 s0 rd2 vc l2 U;simp only at s7;cases QG
  ·have g:QR=n:=by rw[t.out,if_pos (.inr rfl)]
   have Nc:NodeAt o wc i 0 gf off QR:=by rw[g];exact Nc
   clear g;go_wp2
   (try simp only[Exit.inBlock,Exit.then])
   refine bodyPost_ret (results_none rfl _ _ _) rfl ?_;exact⟨rfl,o,Fc,Nc⟩
  have t:Hid (QR=if QM≠0∨0<QL.length then n else if QB then n else if (vote n h).2 then send (vote n h).1 h.author (votM (Zcz n.table h))else(vote n h).1):=by
   show _=_;rw[t.out,if_neg (fun e=>e.elim N.out (by decide))]
  obtain⟨daA,dac,T,_⟩:=id rda;have T:vda=.slice daA n.dag.length dac:=T;subst T;obtain⟨wc0,h9⟩:∃w':World,w'=wc:=⟨_,rfl⟩;subst h9;go_upto_region 3 with fail
  go_cut [8,9] (fun v e w'=>∃mA mc,v=.slice mA QL.length mc∧e=.int .i64 QM∧Below wc0.heap.size wc0 w')
  case first =>
   refine Zr [10] (.q 0 (.q 1 (.q 2 (.q 3 (.q 4 (.l 5 (.q 6 (.q 7 (.q 8 (.q 9 (.qc 10 .nil))))))))))) fun W3 a=>?_
   repeat((first|refine pq (h:=⟨_,fun w' C=>by(have D:=I.kept C;have G:=D.cell 0;have Z:=D.cell 1;have h4:=D.cell 2;have h5:=D.cell 3;have h3:=Zaa C _ _ s7;simp at G Z h4 h5;go_simp;exact rfl),?_⟩)|refine Zq ?_);simp only[sx])
   refine Zd fun K hK=>?_
   try simp only[sy]
   go_simp;have q3:=Zaa a;refine(Zm2 _ n.dag h _ _ _ (rda.mono RCrt.mono q3) ((rbc.mono Ze (Zah _ _)).mono Ze q3) ((rpc.mono Ze (Zah _ _)).mono Ze q3) ((Tc.mono (Zah _ _)).mono q3)).mono ?_;rintro e w4 ⟨d4,rfl,J,rd4⟩;rw[ha.out];rw[ho.out]at rd4;obtain⟨mA,mc,rfl,_⟩:=id rd4;have z:=a.trans (J.mono a.size);refine hK.out _ _ (z) fun C=>?_
   clear hK K
   try simp only[sx]
   repeat(refine Zq ?_;simp only[sx])
   refine Zai ?_;go_wp2_with fail;go_meet;exact⟨mA,mc,rfl,rfl,z⟩
  case rest =>
   obtain⟨mA,mc,rfl,rfl,B⟩:=hcut;have vd:=Zaf lc B;have ld:=Zam lc B;have Nd:=Nc.below lc B;have rbd:=rbc.mono Ze vd;have rpd:=rpc.mono Ze vd;have Td:=Tc.mono vd;have u:=I.kept B;have Fd:=Fc.below B;clear Nc Gc rbc rpc Tc I Fc rda s7 vd lc
   by_cases hM:QM=0
   rotate_left
   ·have hy:(QM==0)=false:=by simpa using hM
    have g:QR=n:=by rw[t.out,if_pos (.inl hM)]
    have Nd:NodeAt o wc i 0 gf off QR:=by rw[g];exact Nd
    clear g;go_wp2
    (try simp only[Exit.inBlock,Exit.then])
    refine bodyPost_ret (results_none rfl _ _ _) rfl ?_;exact⟨rfl,o,Fd,Nd⟩
   have hy:(QM==0)=true:=by simpa using hM
   have HM:=Zb hM;clear hM
   by_cases hL:0<QL.length
   ·have ga:(0:Int)<QL.length:=by omega
    have g:QR=n:=by rw[t.out,if_pos (.inr hL)]
    have Nd:NodeAt o wc i 0 gf off QR:=by rw[g];exact Nd
    clear g;go_wp2
    (try simp only[Exit.inBlock,Exit.then])
    refine bodyPost_ret (results_none rfl _ _ _) rfl ?_;exact⟨rfl,o,Fd,Nd⟩
   have ga:¬(0:Int)<QL.length:=by omega
   have t:Hid (QR=if QB then n else if (vote n h).2 then send (vote n h).1 h.author (votM (Zcz n.table h))else(vote n h).1):=by
    show _=_;rw[t.out,if_neg (fun e=>e.elim (fun q=>q HM.out) hL)]
   clear hL;have b0:=u.cell 0;have b1:=u.cell 1;have b2:=u.cell 2;have b3:=u.cell 3;simp at b0 b1 b2 b3;have rbe:=rbd.mono Ze (Zah _ _);obtain⟨_,g8,gh,F⟩:=RDigs.at rbe;have hn:=Zb F;clear rbe F;obtain⟨wd,g6⟩:∃w':World,w'=wc:=⟨_,rfl⟩;subst g6;go_wp2_with fail
   go_loopw [11,58] (fun _ c wr=>∃k:Nat,k≤h.batches.length∧c=.int .i64 k∧Hid (∀j (Q:j<h.batches.length),j<k→0≤held n h.batches[j])∧Below wd.heap.size wd wr) (fun _ c _=>h.batches.length-(intOf c).toNat)
   case atStart=>exact⟨0,Zf _,rfl,fun j _ Q=>by omega,Zm _ _⟩
   case round =>
    obtain⟨k,M,rfl,H,m⟩:=hrel;have vk:=Zaf ld m;have lk:=Zam ld m;have Nk:=Nd.below ld m;have Fk:=Fd.below m
    by_cases X:k<h.batches.length
    ·obtain⟨k0,o0,d,rfl,q0,hd⟩:=hn.out k X;have c0:=Zaa m _ _ q0;have hm:=hd.mono (Zaa m);obtain⟨eA,ec,rfl,_⟩:=id hd;clear q0 hd
     by_cases hh:held n h.batches[k]<0
     ·have hq:QB=true:=by rw[←R.out];exact Zpg X hh
      have g:QR=n:=by rw[t.out,if_pos hq]
      have Nr:NodeAt o wr i 0 gf off QR:=by rw[g];exact Nk
      clear g;go_wp2_with fail;refine(Zg9 i 0 gf off n _ h.batches[k] o _ Nk hm H8.out).mono ?_;rintro e w5 ⟨rfl,f⟩;have N5:=Nr.below lk f;have F5:=Fk.below f;go_wp2
      (try simp only[Exit.inBlock,Exit.then])
      refine bodyPost_ret (results_none rfl _ _ _) rfl ?_;exact⟨rfl,o,F5,N5⟩
     ·go_wp2_with fail;refine(Zg9 i 0 gf off n _ h.batches[k] o _ Nk hm H8.out).mono ?_
      rintro e w5 ⟨rfl,f⟩;have A:=m.trans (f.mono m.size)
      have h0:Hid (∀j (Q:j<h.batches.length),j<k+1→0≤held n h.batches[j]):=by
       show ∀j (Q:j<h.batches.length),j<k+1→0≤held n h.batches[j];intro j Q gr
       rcases Nat.lt_or_ge j k with G|G
       ·exact H.out j Q G
       ·have:j=k:=by omega
        subst this;omega
      go_wp2;go_roundw
      case rel=>exact⟨k+1,by omega,by go_num,h0,A⟩
      case measure=>simp[intOf];omega
    ·have gy:k=h.batches.length:=by omega
     have hq:¬QB=true:=by rw[←R.out,Zph (fun j Q=>H.out j Q (by omega))];decide
     have t:Hid (QR=if (vote n h).2 then send (vote n h).1 h.author (votM (Zcz n.table h))else(vote n h).1):=by
      show _=_;rw[t.out,if_neg hq]
     clear H hq;obtain⟨QV,ht⟩:∃q,Hid ((vote n h).2=q):=⟨_,rfl⟩;obtain⟨QN,L⟩:∃q,Hid ((vote n h).1=q):=⟨_,rfl⟩;obtain⟨QS,P⟩:∃q,Hid (Zcz n.table h=q):=⟨_,rfl⟩;rw[ht.out,L.out,P.out]at t;have Y:Hid (QN.out=n.out):=by show _=_;rw[←L.out];exact Zy8 n h
     have rbk:=rbd.mono Ze vk;have rpk:=rpd.mono Ze vk;have Tk:=Td.mono vk;have x:=u.kept m;have p0:=x.cell 0;have p1:=x.cell 1;have p2:=x.cell 2;have p3:=x.cell 3;simp at p0 p1 p2 p3;clear b0 b1 b2 b3 rbd rpd Td u Nd Fd hn;go_wp2_with fail;refine(Zy9 i 0 gf off n h _ _ o _ lk hi Nk Tk rbk rpk gb.out).mono ?_;rintro e w5 ⟨sd,rfl,o5,F5,N5,rsd⟩;rw[ht.out,P.out];rw[L.out]at N5;rw[P.out]at rsd;obtain⟨sA,sc,rfl,g5⟩:=id rsd;clear g5;have l5:=F5.fr.lim;have hg:=Blk.new w5 85 #[.int .i64 0,.int .i64 0,.slice none 0 0];have A:=Zac w5 (.cells #[.int .i64 0,.int .i64 0,.slice none 0 0] 85);have F5k:=Fk.trans F5;go_wp2_with (refine Zj 3 hg ?_);intro w6 hB hf;have f:Below w5.heap.size w5 w6:=Zab A A.size hf (by intro k e;injection e;omega);have l6:=Zam l5 f;have N6:=N5.below l5 f;have F6:=F5k.below f;have rsd6:=rsd.mono (Zaf l5 f);have gi:=(Za3 x F5.fr g4).kept f;clear hg A hf rsd N5 F5k F5 p0 p1 p2 p3 x rbk rpk Tk;cases QV
     ·have g:QR=QN:=by rw[t.out,if_neg (by decide)]
      have Nr:NodeAt o5 w6 i 0 gf off QR:=by rw[g];exact N6
      clear g;go_wp2;go_end0;exact⟨rfl,o5,F6,Nr⟩
     ·have g:QR=send QN h.author (votM QS):=by rw[t.out,if_pos rfl]
      have p0:=gi.cell 0;have p1:=hB.cell 0;have p2:=hB.cell 1;have p3:=hB.cell 2;simp at p0 p1 p2 p3;go_wp2_with fail;refine(Zfa i 0 gf off QN h.author (votM QS) _ _ _ _ _ _ _ o5 _ l6 hi N6 (Ztb rsd6) (fun s hs=>by cases hs) (by rw[Y.out];exact H4.out)).mono ?_;rintro e w7 ⟨rfl,o7,F7,N7⟩;have Nr:NodeAt o7 w7 i 0 gf off QR:=by rw[g];exact N7
      have F8:=F6.trans F7;clear g N7;go_wp2;go_end0;exact⟨rfl,o7,F8,Nr⟩
end Fl
end Go.Proofs.YtbcpbnfojfiekaaGreatDoor
