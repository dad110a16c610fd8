/- A part of what the last text stands on. -/
import Derived.Deep.DeepHandedRow
import Derived.Deep.DeepWitnessRowRef
import Derived.LaidOnce
import Derived.Test.YtbcpbnfojfiekaaGreatDoorCards
import Derived.Test.YtbcpbnfojfiekaaGreatDoorTie
import Derived.Test.YtbcpbnfojfiekaaGreatDoorK45
namespace Go.Proofs.YtbcpbnfojfiekaaGreatDoor
open Go.ChangeShapes Go.WideShapes Go.ChangeAt Go.RowKit Go.Proofs.Tryz Qa Qb Qc
set_option linter.all false
set_option maxHeartbeats 20000000
set_option maxRecDepth 100000
variable{W:World}{v:Value}{cs:Array Value}{t:TypeId}{g:Nat}
namespace Fl
theorem Zrf(v:Value)(l:List At)(n:Int)(w:World)(rl:RAts w.cell? v l)(hg:∀g∈l,GOk g)(hn:I64 n)(hT:Tabs w.cell?)(hE:Ln.Env w) :
 Calls prog 3 #[v,.int .i64 n] w fun e w'=>e=.returned (.bool true)∧Below w.heap.size w w':=by
 have h1:=bad_any n;have hr:=badI_ok n;obtain⟨B,hB⟩:∃P,Hid (badI n=P):=⟨_,rfl⟩;rw[hB.out]at h1 hr;have H1:=Zb (fun w=>h1 w hn);have HG:=Zb hg;have Hr:=Zb hr;obtain⟨A,lc,rfl,hf⟩:=id rl;clear h1 hB hg hn hf hr;go_enter func3,ntmps3;go_wp2_with fail;refine(H1.out _).mono ?_;rintro e wz ⟨rfl,rfl⟩;go_wp2_with fail;refine(acts_ofG _ l 40 _ rl HG.out (by decide)).mono ?_;rintro e w1 ⟨v1,a,rfl,I,o1,ha,gr⟩;have R:=Zb ha;obtain⟨A1,c1,rfl⟩:=o1.form;have r1:=o1.reads (by omega);have hl:=I.size;have h9:=hE.kept I;have Z:∀x∈a.map acOf,Ln.actE x=0:=fun x O=>by obtain⟨y,N,rfl⟩:=List.mem_map.1 O;exact R.out y N
 have d:=Ln.show_any _ (a.map acOf) w1 (Zzx r1) (fun x O=>by obtain⟨y,N,rfl⟩:=List.mem_map.1 O;exact Zg (Zna (R.out y N)) (by decide)) h9.words h9.pow;rw[Ln.show_ok Z (by simp;omega)]at d;have h0:=show_len a R.out;have f:=Zzt a R.out (by omega);obtain⟨SL,h5⟩:∃z,Hid (Ln.showL (a.map acOf)=z):=⟨_,rfl⟩;rw[h5.out]at d h0 f;obtain⟨ST,M⟩:∃z,Hid (Ln.mkS SL=z):=⟨_,rfl⟩;have G:ST.data.toList=SL:=by rw[←M.out];rfl
 have T:ST.size=SL.length:=by rw[←G];exact Array.length_toList.symm
 have d:Calls prog 6 #[.slice A1 a.length c1] w1 fun e w'=>e=.returned (.tuple #[.string ST,.int .i64 0,.int .i64 0])∧Below w1.heap.size w1 w':=by
  rw[←M.out];exact d
 have h3:∀w,Ln.Env w→Calls prog 7 #[.string ST] w fun e w'=>(∃v,e=.returned (.tuple #[v,.int .i64 0,.int .i64 0])∧RAts w'.cell? v a)∧Below w.heap.size w w':=fun w h=>by
  refine(Ln.read_any ST (by omega) w h).mono ?_;rintro e w' ⟨⟨v,he,hv⟩,hb⟩;rw[T,G,f]at he hv;exact⟨⟨v,he,rats_of hv⟩,hb⟩
 have h2:=Zb d;have h4:=Zb h3;have E:a.length≤3000:=by omega
 clear d h3 f h0 T G M h5 Z o1 ha rl;go_wp2_with fail;refine h2.out.mono ?_;rintro e w2 ⟨rfl,H⟩;have k:=I.trans (H.mono hl);have hw:=k.size;go_wp2_with fail;refine(h4.out _ (hE.kept k)).mono ?_;rintro e w3 ⟨⟨v3,rfl,ra3⟩,h6⟩;have m:=k.trans (h6.mono hw);have g0:=m.size;have r3:=r1.mono RAt.mono (Zaa (H.trans (h6.mono H.size)));obtain⟨A3,c3,rfl,-⟩:=id ra3;clear r1 h2 h4;go_wp2_with fail;refine(Ztf B _ a _ Hr.out r3 R.out E (hT.mono (Zaa m))).mono ?_;rintro e w5 ⟨X1,x1,X2,xn,x2,X3,xm,x3,rfl,hk,X,-,rxv,-⟩;have t:=m.trans (hk.mono g0);have g8:=t.size;have ra5:=ra3.mono RAt.mono (Zaa hk);obtain⟨AX,h7⟩:∃n:Nat,Hid ((run B a).away.length=n):=⟨_,rfl⟩;obtain⟨NX,V⟩:∃n:Nat,Hid ((run B a).signs.length=n):=⟨_,rfl⟩;rw[h7.out];rw[V.out]at X;subst X;clear r3 ra3;go_upto_region 6 with fail;refine Zo fun W6 hh Y L=>?_
 clear Y;have o:=t.trans (L.mono g8);have ga:=o.size;have rx6:=rxv.mono RVw.mono (Zaa L);have ra6:=ra5.mono RAt.mono (Zaa L);clear rxv ra5;go_wp2_with fail;refine(Ztf B _ a _ Hr.out ra6 R.out E (hT.mono (Zaa o))).mono ?_;rintro e w7 ⟨Y1,y1,Y2,yn,y2,Y3,ym,y3,rfl,J,hc,-,ryv,-⟩;have D:=o.trans (J.mono ga);have hq:=D.size;have C:=hh.kept J;have rx7:=rx6.mono RVw.mono (Zaa J);rw[h7.out];rw[V.out]at hc;subst hc;clear ra6 rx6 hh;go_upto_region 7 with fail;refine Zo fun W8 F h8 r=>?_
 clear h8;have s:=D.trans (r.mono hq);have hs:=s.size;have p:=C.kept r;have rx8:=rx7.mono RVw.mono (Zaa r);have ry8:=ryv.mono RVw.mono (Zaa r);have g4:=p.cell 2;have g5:=F.cell 2;have g6:=p.cell 1;have g7:=F.cell 1;simp at g4 g5 g6 g7;clear rx7 ryv C;go_wp2
 go_loopw [17] (fun i wr=>∃j:Nat,j≤4∧i=.int .i64 j∧Below W8.heap.size W8 wr) (fun i _=>4-(intOf i).toNat)
 case atStart=>exact⟨0,by omega,rfl,Zm _ _⟩
 case round =>
  obtain⟨j,hj,rfl,c⟩:=hrel;have g9:=c.size;have qr:=Zaa c
  by_cases S:j<4
  ·have g1:=(p.kept c).cell 0;have g2:=(F.kept c).cell 0;simp at g1 g2;obtain⟨-,O⟩:=RVws.at (rx8.mono RVw.mono qr);obtain⟨-,N⟩:=RVws.at (ry8.mono RVw.mono qr);obtain⟨b1,o1,c1,e1,t1,p1,rfl,x0,xr,xc,xb,xv,xp,rc1,rb1,rv1,rp1⟩:=O j (by rw[Zew];exact S);obtain⟨b2,o2,c2,e2,t2,p2,rfl,y0,yr,yc,yb,yv,yp,rc2,rb2,rv2,rp2⟩:=N j (by rw[Zew];exact S);rw[Zza]at x0 xr rc1 rb1 rv1 rp1 y0 yr rc2 rb2 rv2 rp2;obtain⟨Q,hQ⟩:∃Q,Hid (vwAt (run B a) j=Q):=⟨_,rfl⟩;rw[hQ.out]at y0 yr rc2 rb2 rv2 rp2;have HS:Hid (Same (vwAt (run B a) j) Q):=Zb (by rw[hQ.out];exact ⟨rfl,rfl,rfl,rfl⟩);clear hQ;generalize vwAt (run B a) j=P at *;have hz:(j:Int)<4:=by omega
   have ht:=Zb (rng6 x0 xr xc xb xv xp);have hm:=Zb (rng6 y0 yr yc yb yv yp);have g3:=Zb (And.intro rc1 (And.intro rb1 (And.intro rv1 rp1)));have ho:=Zb (And.intro rc2 (And.intro rb2 (And.intro rv2 rp2)));obtain⟨cA1,cc1,rfl,-⟩:=id rc1;obtain⟨bA1,bc1,rfl,-⟩:=id rb1;obtain⟨vA1,vc1,rfl,-⟩:=id rv1;obtain⟨pA1,pc1,rfl,-⟩:=id rp1;obtain⟨cA2,cc2,rfl,-⟩:=id rc2;obtain⟨bA2,bc2,rfl,-⟩:=id rb2;obtain⟨vA2,vc2,rfl,-⟩:=id rv2;obtain⟨pA2,pc2,rfl,-⟩:=id rp2;clear rc1 rb1 rv1 rp1 rc2 rb2 rv2 rp2 O N;clear xr xc xb xv xp yr yc yb yv yp x0 y0 g4 g5 g6 g7;go_wp2_with fail;refine Zr [] (.q 0 (.q 1 (.q 2 (.q 3 (.q 4 (.q 5 (.q 6 (.q 7 (.q 8 (.q 9 (.l 10 (.q 11 .nil)))))))))))) fun W b=>?_
   repeat((first|refine pq (h:=⟨_,fun w' b=>by(have k1:=Zaa b _ _ g1;have k2:=Zaa b _ _ g2;go_simp;exact rfl),?_⟩)|refine Zq ?_);simp only[sx])
   refine pl_q (by assumption) rfl rfl ?_;apply Exists.intro;refine⟨fun w' b=>Zg7 44 _ rfl _ _ rfl _ _ (fun j u hu=>Zaa b _ _ (ht.out j u hu)) underlying44 rfl (by kernel_rfl),?_⟩;simp only[List.getElem_toArray,List.getElem_cons_zero,List.getElem_cons_succ,Act.put,List.setIfInBounds_toArray,List.set_cons_zero,List.set_cons_succ]
   repeat((first|refine pq (h:=⟨_,fun w' b=>by(have k1:=Zaa b _ _ g1;have k2:=Zaa b _ _ g2;go_simp;exact rfl),?_⟩)|refine Zq ?_);simp only[sx])
   refine pl_q (by assumption) rfl rfl ?_;apply Exists.intro;refine⟨fun w' b=>Zg7 44 _ rfl _ _ rfl _ _ (fun j u hu=>Zaa b _ _ (hm.out j u hu)) underlying44 rfl (by kernel_rfl),?_⟩;simp only[List.getElem_toArray,List.getElem_cons_zero,List.getElem_cons_succ,Act.put,List.setIfInBounds_toArray,List.set_cons_zero,List.set_cons_succ]
   repeat(refine Zq ?_;simp only[sx])
   have qW:=Zaa b;refine Zd fun K hK=>?_
   try simp only[sy]
   go_simp;obtain⟨s1,s2,s3,s4⟩:=HS.out;obtain⟨rc1,rb1,rv1,-⟩:=g3.out;obtain⟨rc2,rb2,rv2,-⟩:=ho.out;rw[←s1];refine(Kp.sameKnown_any P.up Q.up P.round _ _ _ _ _ _ _ _ P.certs P.bats P.votes _ (rc1.mono RCrt.mono qW) (rb1.mono RBat.mono qW) (rv1.mono RSlot.mono qW) (by rw[s2];exact rc2.mono RCrt.mono qW) (by rw[s3];exact rb2.mono RBat.mono qW) (by rw[s4];exact rv2.mono RSlot.mono qW) ⟨_,_,_,rfl⟩ ⟨_,_,_,rfl⟩).mono ?_;rintro e w10 ⟨rfl,U⟩;clear s1 s2 s3 s4 rc1 rb1 rv1 rc2 rb2 rv2;refine hK.out _ _ (b.trans (U.mono b.size)) fun b=>?_
   clear hK K
   try simp only[sx]
   repeat(refine Zq ?_;simp only[sx])
   refine Zai ?_;go_wp2;go_roundw
   case rel=>exact⟨j+1,by omega,by go_num,c.trans (b.mono g9)⟩
   case measure=>simp[intOf];omega
  ·have hz:¬(j:Int)<4:=by omega
   go_wp2;go_ret;exact⟨rfl,s.trans (c.mono hs)⟩
theorem topLine_open{H:Type}{enc:TypeId×Value→H}(W:World)(hT:Tabs W.cell?)(j:Ln.Env W){base:Nat}{v1:Value}{d d1:DataW H}{p p1:List MemPlace}(b:Value.okWide prog W .any base 22 v)(h:DataW.Trod enc prog W 0 (fun _=>true) true 22 v d p)(i:∀n∈DataW.weights prog 22 d,n≤reachBytes)(a:Value.okWide prog W .any base 3 v1)(f:DataW.Trod enc prog W 0 (fun _=>true) true 3 v1 d1 p1)(c:∀n∈DataW.weights prog 3 d1,n≤reachBytes):Calls prog 3 #[v,v1] W fun e w'=>e=.returned (.bool true)∧Below W.heap.size W w':=by
 obtain⟨l,k,g⟩:=Zu0 b h i;obtain⟨n,rfl,hn⟩:=Zz6 a f c;exact Zrf _ l n _ k g hn hT j
end Fl
end Go.Proofs.YtbcpbnfojfiekaaGreatDoor
