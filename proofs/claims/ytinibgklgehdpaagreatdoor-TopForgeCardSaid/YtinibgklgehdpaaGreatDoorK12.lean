/- A part of what the last text stands on. -/
import Derived.Test.YtinibgklgehdpaaGreatDoorK04
import Derived.Test.YtinibgklgehdpaaGreatDoorK11
namespace Go.Proofs.YtinibgklgehdpaaGreatDoor
open Go.ChangeShapes Go.WideShapes Go.ChangeAt Go.RowKit Qa Qb Qc
set_option linter.all false
set_option maxHeartbeats 20000000
set_option maxRecDepth 100000
variable{w w':World}{v u:Value}{i g:Nat}{m:Msg}
structure GrL (w w':World) (v v':Value):Prop where
 gr:w.grownBy w' v.ownBlock
 loc:∀q,v'.ownBlock=some q→v.ownBlock=some q∨w.heap.size≤q
theorem GrL.refl(w:World)(v:Value):GrL w w v v:=⟨Zjj _ _,fun _ h=>.inl h⟩
theorem GrL.trans{a b c:World}{v1 v2:Value}(h:GrL a b v v1)(k:GrL b c v1 v2):GrL a c v v2:=by
 refine⟨⟨k.gr.os.trans h.gr.os,k.gr.tape.trans h.gr.tape,k.gr.output.trans h.gr.output,Nat.le_trans h.gr.size k.gr.size,fun i hi hne=>?_⟩,fun q hq=>?_⟩
 ·refine(k.gr.block i (Nat.lt_of_lt_of_le hi h.gr.size) (fun e=>?_)).trans (h.gr.block i hi hne)
  rcases h.loc i e.symm with q|q
  ·exact hne q.symm
  ·omega
 ·rcases k.loc q hq with e|e
  ·exact h.loc q e
  ·exact .inr (Nat.le_trans h.gr.size e)
theorem GrL.below{a b c:World}{v':Value}(h:Below a.heap.size a b)(k:GrL b c v v'):GrL a c v v' :=
 ⟨Zaf (Zak _ h) k.gr,fun q hq=>(k.loc q hq).imp id fun e=>Nat.le_trans h.size e⟩
theorem GrL.cell{v':Value}(h:GrL w w' v v')(hc:w.cell? ⟨g,i,none⟩=some u)(hne:¬(some g=v.ownBlock)):w'.cell? ⟨g,i,none⟩=some u:=h.gr.cell hc hne
theorem Zt0(v:Value)(n:Int)(xs:List UInt8)(B:Nat)(w:World)(ho:OwnB w B v xs)(hB:B≤w.heap.size)(h0:0≤n)(hn:n≤140737488355328)(hsz:xs.length+3≤140737488355328) :
 Calls Tryz.prog 65 #[v,.int .i64 n] w fun e w'=>∃v',e=.returned v'∧Below B w w'∧Keeps w w'∧OwnB w' B v' (xs++Zb9 n)∧GrL w w' v v':=by
 obtain⟨A,c,rfl⟩:=ho.form;have u0:=Zaw (n/65536);have u1:=Zaw (n/256);have u2:=Zaw n;have hW:Hid (Zb9 n=[Zar (n/65536),Zar (n/256),Zar n]):=rfl;generalize Zar (n/65536)=U0 at u0 hW;generalize Zar (n/256)=U1 at u1 hW;generalize Zar n=U2 at u2 hW;generalize Zb9 n=Wb at hW⊢
 go_enter Tryz.func65,Tryz.ntmps65
 go_wp2_with (at_builtin;first
  |(refine Zcf (n:=140737488355328) (ys:=[U0,U1,U2]) Za9 Zb8 _ _ rfl rfl rfl (ho.alloc _) (Zau _ hB) rfl (Zn6 (xs:=[U0,U1,U2]) (Blk.new _ _ _) (by simp) (by simp)) (by decide) (by simp;omega) (by simp;omega) ?_))
 intro v1 w1 ho1 hg1 hloc;have hb1:Below B w w1:=((Below.refl B w).alloc hB _).grown hg1 (Zau _ hB) (fun g hg=>(ho.own.lt g hg).1);have hk:=(Zcp w (.cells #[encB U0,encB U1,encB U2] 5)).trans (Zat (ho.alloc _) hg1);have hg2:GrL w w1 (.slice A xs.length c) v1:=GrL.below (Zac w (.cells #[encB U0,encB U1,encB U2] 5)) ⟨hg1,fun q hq=>by first|simpa using hloc q hq|simpa using hloc (by simp) q hq⟩;clear hg1 ho hloc;go_wp2;go_ret;exact⟨_,rfl,hb1,hk,by rw[hW.out];exact ho1,hg2⟩
theorem Zgc(w0:World)(v vl:Value)(xs:List UInt8)(l:List (List UInt8))(w:World)(hbl:Below w0.heap.size w0 w)(ho:OwnB w w0.heap.size v xs)(hv:RDigs w0.cell? vl l)(hne:∀k (hk:k<l.length),0<l[k].length)(hsz:xs.length+1+l.flatten.length≤140737488355328) :
 Calls Tryz.prog 96 #[v,vl] w fun e w'=>∃v',e=.returned v'∧Below w0.heap.size w0 w'∧Keeps w w'∧OwnB w' w0.heap.size v' (xs++Zed l)∧GrL w w' v v':=by
 obtain⟨oA,oc,rfl⟩:=ho.form;obtain⟨A,c,rfl,_⟩:=id hv;obtain⟨_,hcap,hlen,hel⟩:=hv.at;have Hel:=Lib.hid hel;have Hne:=Lib.hid hne;clear hel hv hne;have hz:=hbl.size;have e0:=Zaw l.length;have hD:Hid (Zed l=Zar l.length::l.flatten):=rfl;generalize Zar l.length=U0 at e0 hD;generalize Zed l=Db at hD⊢
 go_enter Tryz.func96,Tryz.ntmps96
 go_wp2_with (at_builtin;first
  |(refine Zcf (n:=140737488355328) (ys:=[U0]) Za9 Zb8 _ _ rfl rfl rfl (ho.alloc _) (Zau _ hz) rfl (Zn6 (xs:=[U0]) (Blk.new _ _ _) (by simp) (by simp)) (by decide) (by simp;omega) (by simp;omega) ?_))
 intro v1 w1 ho1 hg1 hloc;have hb1:Below w0.heap.size w0 w1:=(hbl.alloc hz _).grown hg1 (Zau _ hz) (fun g hg=>(ho.own.lt g hg).1);have hr1:GrL w w1 (.slice oA xs.length oc) v1:=GrL.below (Zac w (.cells #[encB U0] 5)) ⟨hg1,fun q hq=>by first|simpa using hloc q hq|simpa using hloc (by simp) q hq⟩;clear hloc;have hk1:=(Zcp w (.cells #[encB U0] 5)).trans (Zat (ho.alloc _) hg1);clear hg1 ho;obtain⟨Y,hY⟩:∃Y,Hid (xs++[U0]=Y):=⟨_,rfl⟩;have hYl:Y.length=xs.length+1:=by rw[←hY.out];simp
 rw[hY.out]at ho1;go_wp2
 go_loopw [0,15] (fun v i wr=>∃k:Nat,k≤l.length∧i=.int .i64 k∧OwnB wr w0.heap.size v (Y++(l.take k).flatten)∧Below w0.heap.size w0 wr∧Keeps w wr∧GrL w wr (.slice oA xs.length oc) v) (fun _ i _=>l.length-(intOf i).toNat)
 case atStart=>exact⟨0,Nat.zero_le _,rfl,by simpa using ho1,hb1,hk1,hr1⟩
 case round =>
  clear ho1 hb1 hk1 hr1 hbl hz;obtain⟨k,hk,rfl,hown,hbl,hkp,hrl⟩:=hrel;have hz:=hbl.size
  by_cases hlt:k<l.length
  ·obtain⟨b0,o0,d,rfl,q0,hd⟩:=Hel.out k hlt;have c0:=Zaa hbl _ _ q0;obtain⟨dA,dc,rfl,_⟩:=id hd;have Hd:=Lib.hid (hd.mono (Zaa hbl));obtain⟨hn,hnl⟩:=Zpd l hlt;have Hn:=Lib.hid hn;have hpos:=Hne.out k hlt;clear hd q0 hn;generalize (l.take k).flatten=Z at hown Hn hnl;generalize l[k]=p at Hd Hn hnl c0 hpos
   go_wp2_with (at_builtin;go_loud (refine Zcf (n:=140737488355328) (ys:=p) Za9 Zb8 _ _ rfl rfl rfl hown hz rfl Hd.out (by decide) (by simp;omega) (by simp;omega) ?_))
   intro v2 w2 ho2 hg2 hloc;have hb2:Below w0.heap.size w0 w2:=hbl.grown hg2 hz (fun g hg=>(hown.own.lt g hg).1);have hr2:=hrl.trans ⟨hg2,fun q hq=>by first|simpa using hloc hpos q hq|simpa using hloc q hq⟩;clear hloc hrl;have hk2:=hkp.trans (Zat hown hg2);clear hg2 hown;go_wp2;go_roundw
   case rel=>exact⟨k+1,by omega,by go_num,by rw[Hn.out];simpa using ho2,hb2,hk2,hr2⟩
   case measure=>simp[intOf];omega
  ·have hkl:k=l.length:=by omega
   subst hkl;rw[List.take_length]at hown;have hfin:OwnB wr w0.heap.size u0 (xs++Db):=by rw[hD.out];rw[←hY.out,List.append_assoc]at hown;exact hown
   go_wp2;go_ret;exact⟨_,rfl,hbl,hkp,hfin,hrl⟩
theorem Zl3(w0:World)(v:Value)(xs:List UInt8)(a r:Int)(vb vp:Value)(b p:List (List UInt8))(w:World)(hbl:Below w0.heap.size w0 w)(ho:OwnB w w0.heap.size v xs)(hr0:0≤r)(hr1:r≤140737488355328)(hb:RDigs w0.cell? vb b)(hp:RDigs w0.cell? vp p)(hne:∀k (hk:k<b.length),0<b[k].length)(hne2:∀k (hk:k<p.length),0<p[k].length)(hsz:xs.length+6+b.flatten.length+p.flatten.length≤140737488355328) :
 Calls Tryz.prog 66 #[v,.agg #[.int .i64 a,.int .i64 r,vb,vp]] w fun e w'=>∃v',e=.returned v'∧Below w0.heap.size w0 w'∧Keeps w w'∧OwnB w' w0.heap.size v' (xs++Zcb a r b p)∧GrL w w' v v':=by
 obtain⟨oA,oc,rfl⟩:=ho.form;have hz:=hbl.size;have e0:=Zaw a;have hD:Hid (Zcb a r b p=((Zar a::Zb9 r)++Zed b)++Zed p):=rfl;generalize Zar a=U0 at e0 hD;generalize Zcb a r b p=Db at hD⊢;have hwl:(Zb9 r).length=3:=rfl;have hbl1:(Zed b).length=1+b.flatten.length:=by show(_::_).length=_;rw[List.length_cons];omega
 generalize hWr:Zb9 r=Wr at hwl hD;generalize hBd:Zed b=Bd at hbl1 hD
 go_enter Tryz.func66,Tryz.ntmps66
 go_wp2;refine Za7 _ _ _ (fun W=>(Code.region _ _ _).wp _ _ _ W) (fun W hk hszW hblW=>?_);have hkp:Keeps w W:=Zbq hblW;have ho:=ho.kept hblW;have gq0:GrL w W (.slice oA xs.length oc) (.slice oA xs.length oc):=GrL.below hblW (GrL.refl _ _);have hbl:=hbl.trans (hblW.mono hz);have hz:=hbl.size;refine Zt (fun w'=>Below W.heap.size W w') (fun w'=>Blk w' w.heap.size 51 #[.int .i64 a,.int .i64 r,vb,vp]) [15] (.q 0 (.q 1 (.q 2 (.q 3 (.q 6 (.q 7 (.q 9 (.q 10 (.q 12 (.q 13 (.l 4 (.l 5 (.l 8 (.l 11 (.l 14 (.qc 15 .nil)))))))))))))))) ?_ ?_
 ·exact⟨Zad _,hk⟩
 intro W1 hS0 hS;have ho:=ho.kept hS0;have gq0:=gq0.trans (GrL.below hS0 (GrL.refl _ _));have hkp:=hkp.trans (Zbq hS0);have hbl:=hbl.trans (hS0.mono hz);have hz:=hbl.size;clear hS0 hk
 repeat((first|refine pq (h:=⟨_,fun w' hS=>by(have h0:=hS.cell 0;have h1:=hS.cell 1;have h2:=hS.cell 2;have h3:=hS.cell 3;simp at h0 h1 h2 h3;go_simp;exact rfl),?_⟩)|refine Zq ?_);simp only[sx])
 refine Zd fun K hK=>?_
 try simp only[sy]
 go_simp;refine hK.out _ _ (hS.alloc _) fun hS=>?_
 clear hK K
 try simp only[sx]
 repeat((first|refine pq (h:=⟨_,fun w' hS=>by(have h0:=hS.cell 0;have h1:=hS.cell 1;have h2:=hS.cell 2;have h3:=hS.cell 3;simp at h0 h1 h2 h3;go_simp;exact rfl),?_⟩)|refine Zq ?_);simp only[sx])
 refine Zd fun K hK=>?_
 try simp only[sy]
 have hrow:=Zn4 W1 U0;have hoa:=ho.alloc (.cells #[.int .u8 U0.toNat] 5);refine Zcn (n:=140737488355328) (xs:=xs) (ys:=[U0]) (v:=.slice oA xs.length oc) (vy:=.slice (some ⟨W1.heap.size,0,none⟩) 1 1) Za9 Zb8 _ _ rfl rfl hoa (Zau _ hz) rfl hrow (by decide) (by simp;omega) (by simp;omega) ?_;intro v1 w1 o1 g1 hloc;have b1:Below w0.heap.size w0 w1:=(hbl.alloc hz _).grown g1 (Zau _ hz) (fun g hg=>(ho.own.lt g hg).1);have gq1:=gq0.trans (GrL.below (Zac W1 (.cells #[.int .u8 U0.toNat] 5)) ⟨g1,hloc (by simp)⟩);clear hloc;have k0:=Zat hoa g1;have k1:=(Zcp W1 (.cells #[.int .u8 U0.toNat] 5)).trans k0;have z1:=b1.size;clear g1 hoa hrow;refine hK.out _ _ (k0 _ _ _ (by decide) hS) fun hS=>?_
 clear hK K
 try simp only[sx]
 repeat((first|refine pq (h:=⟨_,fun w' hS=>by(have h0:=hS.cell 0;have h1:=hS.cell 1;have h2:=hS.cell 2;have h3:=hS.cell 3;simp at h0 h1 h2 h3;go_simp;exact rfl),?_⟩)|refine Zq ?_);simp only[sx])
 refine Zd fun K hK=>?_
 try simp only[sy]
 go_simp;refine(Zt0 v1 r (xs++[U0]) _ _ o1 z1 hr0 hr1 (by simp;omega)).mono ?_;rintro e w2 ⟨v2,rfl,b2,k2,o2,g2⟩;have gq2:=gq1.trans g2;clear g2 gq1;rw[hWr]at o2;have b2:=b1.trans b2;clear o1 b1;refine hK.out _ _ (k2 _ _ _ (by decide) hS) fun hS=>?_
 clear hK K
 try simp only[sx]
 repeat((first|refine pq (h:=⟨_,fun w' hS=>by(have h0:=hS.cell 0;have h1:=hS.cell 1;have h2:=hS.cell 2;have h3:=hS.cell 3;simp at h0 h1 h2 h3;go_simp;exact rfl),?_⟩)|refine Zq ?_);simp only[sx])
 refine Zd fun K hK=>?_
 try simp only[sy]
 go_simp;refine(Zgc w0 v2 vb _ b _ b2 o2 hb hne (by simp only[List.length_append,List.length_cons,List.length_nil];omega)).mono ?_;rintro e w3 ⟨v3,rfl,b3,k3,o3,g3⟩;have gq3:=gq2.trans g3;clear g3 gq2;rw[hBd]at o3;clear o2 b2;refine hK.out _ _ (k3 _ _ _ (by decide) hS) fun hS=>?_
 clear hK K
 try simp only[sx]
 repeat((first|refine pq (h:=⟨_,fun w' hS=>by(have h0:=hS.cell 0;have h1:=hS.cell 1;have h2:=hS.cell 2;have h3:=hS.cell 3;simp at h0 h1 h2 h3;go_simp;exact rfl),?_⟩)|refine Zq ?_);simp only[sx])
 refine Zd fun K hK=>?_
 try simp only[sy]
 go_simp;refine(Zgc w0 v3 vp _ p _ b3 o3 hp hne2 (by simp only[List.length_append,List.length_cons,List.length_nil];omega)).mono ?_;rintro e w4 ⟨v4,rfl,b4,k4,o4,g4⟩;have gq4:=gq3.trans g4;clear g4 gq3;clear o3 b3;refine hK.out _ _ (k4 _ _ _ (by decide) hS) fun hS=>?_
 clear hK K
 try simp only[sx]
 repeat((first|refine pq (h:=⟨_,fun w' hS=>by(have h0:=hS.cell 0;have h1:=hS.cell 1;have h2:=hS.cell 2;have h3:=hS.cell 3;simp at h0 h1 h2 h3;go_simp;exact rfl),?_⟩)|refine Zq ?_);simp only[sx])
 refine Zah ?_;go_wp2;go_ret;exact⟨_,rfl,b4,(((hkp.trans k1).trans k2).trans k3).trans k4,by rw[hD.out];simpa using o4,gq4⟩
def Zdl(m:Msg):List UInt8 :=
 if m.kind=1 then Zfd m.bat.author m.bat.number m.bat.txs else if m.kind=2 then Zcb m.hdr.author m.hdr.round m.hdr.batches m.hdr.parents
 else if m.kind=3 then((Zar m.slt.author::Zb9 m.slt.round)++m.slt.digest)
 else if m.kind=4 then(Zcb m.crt.hdr.author m.crt.hdr.round m.crt.hdr.batches m.crt.hdr.parents++(Zar m.crt.voters.length::m.crt.voters.map Zar))else Zb9 m.round
def msgB(m:Msg):List UInt8:=[Zar m.kind,Zar m.src,Zar m.dst]++Zdl m
def Zqa(m:Msg):List UInt8:=if msgF m=0 then msgB m else []
theorem msgF_zero(h:msgF m=0):(m.kind=1∨m.kind=2∨m.kind=3∨m.kind=4∨m.kind=5)∧Zd7 m=0:=by
 unfold msgF at h;split at h
 ·split at h
  ·rename_i hk;split at h
   ·rename_i hb;exact absurd h hb
   ·rename_i hb;refine⟨?_,Classical.not_not.1 hb⟩;simp[inB]at hk;omega
  ·cases h
 ·cases h
theorem Zyx(hk:m.kind=1)(h:msgF m=0):Zcq m.bat.author m.bat.number m.bat.txs=0:=by have:=(msgF_zero h).2;simpa[Zd7,hk]using this
theorem Zyw(hk:m.kind=2)(h:msgF m=0):Zb3 m.hdr.author m.hdr.round m.hdr.batches m.hdr.parents=0:=by have:=(msgF_zero h).2;simpa[Zd7,hk]using this
theorem Zyv(hk:m.kind=3)(h:msgF m=0):Zf7 m.slt.author m.slt.round m.slt.digest.length=0:=by have:=(msgF_zero h).2;simpa[Zd7,hk]using this
theorem Zyu(hk:m.kind=4)(h:msgF m=0):Zg4 m.crt.hdr.author m.crt.hdr.round m.crt.hdr.batches m.crt.hdr.parents m.crt.voters=0:=by have:=(msgF_zero h).2;simpa[Zd7,hk]using this
theorem body_5(hk:m.kind=5)(h:msgF m=0):1≤m.round∧m.round≤1048576:=by
 have:=(msgF_zero h).2;simp[Zd7,hk]at this;simpa[inB]using this
theorem slotF_zero{a r:Int}{l:Nat}(h:Zf7 a r l=0):1≤r∧r≤1048576∧l=32:=by
 unfold Zf7 at h;split at h
 ·cases h
 ·rename_i h1;split at h
  ·cases h
  ·rename_i h2;simp[inB]at h1;omega
theorem certF_zero{a r:Int}{b p:List (List UInt8)}{vs:List Int}(h:Zg4 a r b p vs=0):1≤r∧r≤1048576∧b.flatten.length≤96∧p.flatten.length≤128∧(∀k (hk:k<b.length),0<b[k].length)∧(∀k (hk:k<p.length),0<p[k].length)∧vs.length≤4:=by
 unfold Zg4 at h;split at h
 ·rename_i h1;exact absurd h h1
 ·rename_i h1;have h1:=Classical.not_not.1 h1;obtain⟨q0,q1,q2,q3⟩:=headF_zero h1;obtain⟨d1,d2⟩:=Zs8 h1;refine⟨q0,q1,q2,q3,fun k hk=>by have:=d1 k hk;omega,fun k hk=>by have:=d2 k hk;omega,?_⟩;split at h
  ·cases h
  ·omega
theorem Zx1(m:Msg)(hk:m.kind=1)(h0:msgF m=0)(vt vb vp vd cb cp cv:Value)(w:World)(r:RMsg w.cell? m vt vb vp vd cb cp cv)(hs:∀s∈m.bat.txs,s.size≤140737488355328) :
 Calls Tryz.prog 37 #[.agg (msgC m vt vb vp vd cb cp cv)] w fun e w'=>∃d,e=.returned (.tuple #[d,.int .i64 0])∧Below w.heap.size w w'∧Zao (View.from w'.cell? w.heap.size) d (msgB m):=by
 obtain⟨⟨tA,tc,rfl⟩,⟨bA,bc,rfl⟩,⟨pA,pc,rfl⟩,⟨dA,dc,rfl⟩,⟨cA,cc,rfl⟩,⟨qA,qc,rfl⟩,⟨vA,vc,rfl⟩⟩:=r.forms;have e1:=Zaw m.src;have e2:=Zaw m.dst;have hR:Hid (msgB m=[1,Zar m.src,Zar m.dst]++Zfd m.bat.author m.bat.number m.bat.txs):=by show _=_;simp[msgB,Zdl,hk,Zar]
 generalize Zar m.src=U1 at e1 hR;generalize Zar m.dst=U2 at e2 hR;generalize msgB m=R at hR⊢;obtain⟨q0,q1,q2⟩:=batchF_zero (Zyx hk h0);have Hk:=Lib.hid hk;have H0:=Lib.hid h0;clear hk h0;unfold msgC
 go_enter Tryz.func37,Tryz.ntmps37
 go_upto_region 1 with fail
 refine Zo fun W hbk hsz hbl=>?_
 have r1:=r.mono (Zaa hbl)
 go_wp2_with (refine wpList_load_row rfl 66 _ rfl _ rfl _ _ _ _ hbk Tryz.underlying66 rfl (by kernel_rfl) ?_)
 refine(Zd4 m _ _ _ _ _ _ _ _ r1 hs).mono ?_;rintro e w1 ⟨rfl,hb1⟩;rw[H0.out];have hbl1:=hbl.trans (hb1.mono hbl.size);have hz1:=hbl1.size;have hq:=hbk.kept hb1;have hlt1:=hq.lt;have g0:=hq.cell 0;have g1:=hq.cell 1;have g2:=hq.cell 2;have g3:=hq.cell 3;have g4:=hq.cell 4;have g5:=hq.cell 5;have g6:=hq.cell 6;have g7:=hq.cell 7;have g8:=hq.cell 8;have g9:=hq.cell 9;have g10:=hq.cell 10;have g11:=hq.cell 11;have g12:=hq.cell 12;have g13:=hq.cell 13;have g14:=hq.cell 14;have g15:=hq.cell 15;have g16:=hq.cell 16;have g17:=hq.cell 17;have g18:=hq.cell 18;simp at g0 g1 g2 g3 g4 g5 g6 g7 g8 g9 g10 g11 g12 g13 g14 g15 g16 g17 g18;rw[Hk.out]at g2;have r2:=r1.mono (Zaa hb1);have hlit:∀(W:World) (n:Nat) (xs:List UInt8),Blk W n 5 (xs.map encB).toArray→w1.heap.size≤n→xs.length=3→OwnB W w1.heap.size (.slice (some ⟨n,0,none⟩) 3 3) xs:=fun W n xs hb hn hl=>OwnVec.lit hb hn hl.symm (by decide)
 clear r r1 hbk hsz hb1;have hRl:Hid (R.length=3+(5+(Zbf m.bat.txs).length)):=by show _=_;rw[hR.out,List.length_append,batchB_len];rfl
 go_wp2_with fail
 refine(Zjg w1 _ [1,U1,U2] m.bat.author m.bat.number _ m.bat.txs _ (Zac _ _) (hlit _ _ [1,U1,U2] (Blk.new _ _ _) (Nat.le_refl _) rfl) (by omega) (by omega) r2.txs (by simp only[List.length_cons,List.length_nil];omega)).mono ?_;rintro e w2 ⟨v2,rfl,hb2,hkp,ho2⟩;clear g0 g1 g3 g4 g5 g6 g7 g8 g9 g10 g11 g12 g13 g14 g15 g16 g17 g18;go_wp2;go_ret2;exact⟨_,rfl,hbl1.trans (hb2.mono hz1),by rw[hR.out];exact(ho2).from_ (bs:=1) (by rw[←hR.out];rw[hRl.out];omega) hz1⟩
theorem Zx0(m:Msg)(hk:m.kind=2)(h0:msgF m=0)(vt vb vp vd cb cp cv:Value)(w:World)(r:RMsg w.cell? m vt vb vp vd cb cp cv)(hs:∀s∈m.bat.txs,s.size≤140737488355328) :
 Calls Tryz.prog 37 #[.agg (msgC m vt vb vp vd cb cp cv)] w fun e w'=>∃d,e=.returned (.tuple #[d,.int .i64 0])∧Below w.heap.size w w'∧Zao (View.from w'.cell? w.heap.size) d (msgB m):=by
 obtain⟨⟨tA,tc,rfl⟩,⟨bA,bc,rfl⟩,⟨pA,pc,rfl⟩,⟨dA,dc,rfl⟩,⟨cA,cc,rfl⟩,⟨qA,qc,rfl⟩,⟨vA,vc,rfl⟩⟩:=r.forms;have e1:=Zaw m.src;have e2:=Zaw m.dst;have hR:Hid (msgB m=[2,Zar m.src,Zar m.dst]++Zcb m.hdr.author m.hdr.round m.hdr.batches m.hdr.parents):=by show _=_;simp[msgB,Zdl,hk,Zar]
 generalize Zar m.src=U1 at e1 hR;generalize Zar m.dst=U2 at e2 hR;generalize msgB m=R at hR⊢;obtain⟨q0,q1,q2,q3⟩:=headF_zero (Zyw hk h0);have Hk:=Lib.hid hk;have H0:=Lib.hid h0;clear hk h0;unfold msgC
 go_enter Tryz.func37,Tryz.ntmps37
 go_upto_region 1 with fail
 refine Zo fun W hbk hsz hbl=>?_
 have r1:=r.mono (Zaa hbl)
 go_wp2_with (refine wpList_load_row rfl 66 _ rfl _ rfl _ _ _ _ hbk Tryz.underlying66 rfl (by kernel_rfl) ?_)
 refine(Zd4 m _ _ _ _ _ _ _ _ r1 hs).mono ?_;rintro e w1 ⟨rfl,hb1⟩;rw[H0.out];have hbl1:=hbl.trans (hb1.mono hbl.size);have hz1:=hbl1.size;have hq:=hbk.kept hb1;have hlt1:=hq.lt;have g0:=hq.cell 0;have g1:=hq.cell 1;have g2:=hq.cell 2;have g3:=hq.cell 3;have g4:=hq.cell 4;have g5:=hq.cell 5;have g6:=hq.cell 6;have g7:=hq.cell 7;have g8:=hq.cell 8;have g9:=hq.cell 9;have g10:=hq.cell 10;have g11:=hq.cell 11;have g12:=hq.cell 12;have g13:=hq.cell 13;have g14:=hq.cell 14;have g15:=hq.cell 15;have g16:=hq.cell 16;have g17:=hq.cell 17;have g18:=hq.cell 18;simp at g0 g1 g2 g3 g4 g5 g6 g7 g8 g9 g10 g11 g12 g13 g14 g15 g16 g17 g18;rw[Hk.out]at g2;have r2:=r1.mono (Zaa hb1);have hlit:∀(W:World) (n:Nat) (xs:List UInt8),Blk W n 5 (xs.map encB).toArray→w1.heap.size≤n→xs.length=3→OwnB W w1.heap.size (.slice (some ⟨n,0,none⟩) 3 3) xs:=fun W n xs hb hn hl=>OwnVec.lit hb hn hl.symm (by decide)
 clear r r1 hbk hsz hb1;have hRl:Hid (R.length=3+(6+m.hdr.batches.flatten.length+m.hdr.parents.flatten.length)):=by show _=_;rw[hR.out,List.length_append,headerB_len];rfl
 go_wp2_with fail
 refine(Zfw w1 _ [2,U1,U2] m.hdr.author m.hdr.round _ _ m.hdr.batches m.hdr.parents _ (Zac _ _) (hlit _ _ [2,U1,U2] (Blk.new _ _ _) (Nat.le_refl _) rfl) (by omega) (by omega) r2.bats r2.pars (by simp only[List.length_cons,List.length_nil];omega)).mono ?_;rintro e w2 ⟨v2,rfl,hb2,hkp,ho2⟩;clear g0 g1 g3 g4 g5 g6 g7 g8 g9 g10 g11 g12 g13 g14 g15 g16 g17 g18;go_wp2;go_ret2;exact⟨_,rfl,hbl1.trans (hb2.mono hz1),by rw[hR.out];exact(ho2).from_ (bs:=1) (by rw[←hR.out];rw[hRl.out];omega) hz1⟩
theorem Zxz(m:Msg)(hk:m.kind=3)(h0:msgF m=0)(vt vb vp vd cb cp cv:Value)(w:World)(r:RMsg w.cell? m vt vb vp vd cb cp cv)(hs:∀s∈m.bat.txs,s.size≤140737488355328) :
 Calls Tryz.prog 37 #[.agg (msgC m vt vb vp vd cb cp cv)] w fun e w'=>∃d,e=.returned (.tuple #[d,.int .i64 0])∧Below w.heap.size w w'∧Zao (View.from w'.cell? w.heap.size) d (msgB m):=by
 obtain⟨⟨tA,tc,rfl⟩,⟨bA,bc,rfl⟩,⟨pA,pc,rfl⟩,⟨dA,dc,rfl⟩,⟨cA,cc,rfl⟩,⟨qA,qc,rfl⟩,⟨vA,vc,rfl⟩⟩:=r.forms;have e1:=Zaw m.src;have e2:=Zaw m.dst;have hR:Hid (msgB m=[3,Zar m.src,Zar m.dst]++((Zar m.slt.author::Zb9 m.slt.round)++m.slt.digest)):=by show _=_;simp[msgB,Zdl,hk,Zar]
 generalize Zar m.src=U1 at e1 hR;generalize Zar m.dst=U2 at e2 hR;generalize msgB m=R at hR⊢;obtain⟨q0,q1,q2⟩:=slotF_zero (Zyv hk h0);have Q2:=Lib.hid q2;clear q2;have Hk:=Lib.hid hk;have H0:=Lib.hid h0;clear hk h0;unfold msgC
 go_enter Tryz.func37,Tryz.ntmps37
 go_upto_region 1 with fail
 refine Zo fun W hbk hsz hbl=>?_
 have r1:=r.mono (Zaa hbl)
 go_wp2_with (refine wpList_load_row rfl 66 _ rfl _ rfl _ _ _ _ hbk Tryz.underlying66 rfl (by kernel_rfl) ?_)
 refine(Zd4 m _ _ _ _ _ _ _ _ r1 hs).mono ?_;rintro e w1 ⟨rfl,hb1⟩;rw[H0.out];have hbl1:=hbl.trans (hb1.mono hbl.size);have hz1:=hbl1.size;have hq:=hbk.kept hb1;have hlt1:=hq.lt;have g0:=hq.cell 0;have g1:=hq.cell 1;have g2:=hq.cell 2;have g3:=hq.cell 3;have g4:=hq.cell 4;have g5:=hq.cell 5;have g6:=hq.cell 6;have g7:=hq.cell 7;have g8:=hq.cell 8;have g9:=hq.cell 9;have g10:=hq.cell 10;have g11:=hq.cell 11;have g12:=hq.cell 12;have g13:=hq.cell 13;have g14:=hq.cell 14;have g15:=hq.cell 15;have g16:=hq.cell 16;have g17:=hq.cell 17;have g18:=hq.cell 18;simp at g0 g1 g2 g3 g4 g5 g6 g7 g8 g9 g10 g11 g12 g13 g14 g15 g16 g17 g18;rw[Hk.out]at g2;have r2:=r1.mono (Zaa hb1);have hlit:∀(W:World) (n:Nat) (xs:List UInt8),Blk W n 5 (xs.map encB).toArray→w1.heap.size≤n→xs.length=3→OwnB W w1.heap.size (.slice (some ⟨n,0,none⟩) 3 3) xs:=fun W n xs hb hn hl=>OwnVec.lit hb hn hl.symm (by decide)
 clear r r1 hbk hsz hb1;have hRl:Hid (R.length=39):=by show _=_;rw[hR.out,List.length_append,List.length_append,Q2.out];rfl
 have e3:=Zaw m.slt.author;generalize Zar m.slt.author=U3 at e3 hR
 go_wp2_with fail
 refine Za7 _ _ _ (fun W=>(Code.region _ _ _).wp _ _ _ W) (fun W2 hk2 hsz2 hbl2=>?_);have ho:=hlit W2 _ [3,U1,U2] hk2 (Nat.le_refl _) rfl;have hq2:=hq.kept hbl2;have hz2:=hbl2.size;clear g0 g1 g3 g4 g5 g6 g7 g8 g9 g10 g11 g12 g13 g14 g15 g16 g17 g18;refine Zt (fun w'=>Below W2.heap.size W2 w') (fun w'=>Blk w' w.heap.size 66 (msgC m (.slice tA m.bat.txs.length tc) (.slice bA m.hdr.batches.length bc) (.slice pA m.hdr.parents.length pc) (.slice dA m.slt.digest.length dc) (.slice cA m.crt.hdr.batches.length cc) (.slice qA m.crt.hdr.parents.length qc) (.slice vA m.crt.voters.length vc))) [15] (.q 0 (.q 1 (.q 2 (.q 3 (.q 4 (.q 7 (.q 8 (.q 9 (.q 11 (.q 12 (.q 13 (.l 5 (.l 6 (.l 10 (.l 14 (.qc 15 .nil)))))))))))))))) ?_ ?_
 ·exact⟨Zad _,hq2⟩
 intro W1 hS0 hS;have ho:=ho.kept hS0;have hbl2:=hbl2.trans (hS0.mono hz2);have hz2:=hbl2.size;clear hS0 hk2 hsz2
 repeat((first|refine pq (h:=⟨_,fun w' hS=>by(have h10:=hS.cell 10;have h11:=hS.cell 11;have h12:=hS.cell 12;simp[msgC]at h10 h11 h12;go_simp;exact rfl),?_⟩)|refine Zq ?_);simp only[sx])
 refine Zd fun K hK=>?_
 try simp only[sy]
 go_simp;refine hK.out _ _ (hS.alloc _) fun hS=>?_
 clear hK K
 try simp only[sx]
 repeat((first|refine pq (h:=⟨_,fun w' hS=>by(have h10:=hS.cell 10;have h11:=hS.cell 11;have h12:=hS.cell 12;simp[msgC]at h10 h11 h12;go_simp;exact rfl),?_⟩)|refine Zq ?_);simp only[sx])
 refine Zd fun K hK=>?_
 try simp only[sy]
 have hrow:=Zn4 W1 U3;have hoa:=ho.alloc (.cells #[.int .u8 U3.toNat] 5);refine Zf8 (n:=140737488355328) (W:=w1) (xs:=[3,U1,U2]) (ys:=[U3]) (v:=.slice (some ⟨w1.heap.size,0,none⟩) 3 3) (vy:=.slice (some ⟨W1.heap.size,0,none⟩) 1 1) Za9 _ _ rfl rfl hoa (hbl2.alloc hz2 _) (Zau _ hz2) rfl hrow (by decide) (by simp) ?_;intro v1 w2 o1 b1 gg1;have k0:=Zat hoa gg1;have z1:=b1.size;clear gg1 hoa hrow;refine hK.out _ _ (k0 _ _ _ (by decide) hS) fun hS=>?_
 clear hK K
 try simp only[sx]
 repeat((first|refine pq (h:=⟨_,fun w' hS=>by(have h10:=hS.cell 10;have h11:=hS.cell 11;have h12:=hS.cell 12;simp[msgC]at h10 h11 h12;go_simp;exact rfl),?_⟩)|refine Zq ?_);simp only[sx])
 refine Zd fun K hK=>?_
 try simp only[sy]
 go_simp;refine(Zfq v1 m.slt.round ([3,U1,U2]++[U3]) _ _ o1 z1 (by omega) (by omega) (by simp)).mono ?_;rintro e w3 ⟨v2,rfl,b2,k2,o2,_⟩;have b2:=b1.trans b2;have z2:=b2.size;clear o1 b1;refine hK.out _ _ (k2 _ _ _ (by decide) hS) fun hS=>?_
 clear hK K
 try simp only[sx]
 repeat((first|refine pq (h:=⟨_,fun w' hS=>by(have h10:=hS.cell 10;have h11:=hS.cell 11;have h12:=hS.cell 12;simp[msgC]at h10 h11 h12;go_simp;exact rfl),?_⟩)|refine Zq ?_);simp only[sx])
 refine Zd fun K hK=>?_
 try simp only[sy]
 refine Zf8 (n:=140737488355328) (W:=w1) (xs:=[3,U1,U2]++[U3]++Zb9 m.slt.round) (ys:=m.slt.digest) (v:=v2) (vy:=.slice dA m.slt.digest.length dc) Za9 _ _ rfl rfl o2 b2 z2 rfl (r2.dig.mono (Zaa b2)) (by decide) (by rw[Q2.out];simp[Zb9]) ?_;intro v3 w4 o3 b3 gg3;have k3:=Zat o2 gg3;clear gg3;refine hK.out _ _ (k3 _ _ _ (by decide) hS) fun hS=>?_
 clear hK K
 try simp only[sx]
 repeat(refine Zq ?_;simp only[sx])
 refine Zah ?_;have ho3:OwnB w4 w1.heap.size v3 ([3,U1,U2]++((U3::Zb9 m.slt.round)++m.slt.digest)):=by simpa using o3
 clear o3 o2;go_wp2;go_ret2;exact⟨_,rfl,hbl1.trans (b3.mono hz1),by rw[hR.out];exact(ho3).from_ (bs:=1) (by rw[←hR.out];rw[hRl.out];omega) hz1⟩
theorem Zxy(m:Msg)(hk:m.kind=4)(h0:msgF m=0)(vt vb vp vd cb cp cv:Value)(w:World)(r:RMsg w.cell? m vt vb vp vd cb cp cv)(hs:∀s∈m.bat.txs,s.size≤140737488355328) :
 Calls Tryz.prog 37 #[.agg (msgC m vt vb vp vd cb cp cv)] w fun e w'=>∃d,e=.returned (.tuple #[d,.int .i64 0])∧Below w.heap.size w w'∧Zao (View.from w'.cell? w.heap.size) d (msgB m):=by
 obtain⟨⟨tA,tc,rfl⟩,⟨bA,bc,rfl⟩,⟨pA,pc,rfl⟩,⟨dA,dc,rfl⟩,⟨cA,cc,rfl⟩,⟨qA,qc,rfl⟩,⟨vA,vc,rfl⟩⟩:=r.forms;have e1:=Zaw m.src;have e2:=Zaw m.dst;have hR:Hid (msgB m=[4,Zar m.src,Zar m.dst]++(Zcb m.crt.hdr.author m.crt.hdr.round m.crt.hdr.batches m.crt.hdr.parents++(Zar m.crt.voters.length::m.crt.voters.map Zar))):=by show _=_;simp[msgB,Zdl,hk,Zar]
 generalize Zar m.src=U1 at e1 hR;generalize Zar m.dst=U2 at e2 hR;generalize msgB m=R at hR⊢;obtain⟨q0,q1,q2,q3,q4,q5,q6⟩:=certF_zero (Zyu hk h0);have Hk:=Lib.hid hk;have H0:=Lib.hid h0;clear hk h0;unfold msgC
 go_enter Tryz.func37,Tryz.ntmps37
 go_upto_region 1 with fail
 refine Zo fun W hbk hsz hbl=>?_
 have r1:=r.mono (Zaa hbl)
 go_wp2_with (refine wpList_load_row rfl 66 _ rfl _ rfl _ _ _ _ hbk Tryz.underlying66 rfl (by kernel_rfl) ?_)
 refine(Zd4 m _ _ _ _ _ _ _ _ r1 hs).mono ?_;rintro e w1 ⟨rfl,hb1⟩;rw[H0.out];have hbl1:=hbl.trans (hb1.mono hbl.size);have hz1:=hbl1.size;have hq:=hbk.kept hb1;have hlt1:=hq.lt;have g0:=hq.cell 0;have g1:=hq.cell 1;have g2:=hq.cell 2;have g3:=hq.cell 3;have g4:=hq.cell 4;have g5:=hq.cell 5;have g6:=hq.cell 6;have g7:=hq.cell 7;have g8:=hq.cell 8;have g9:=hq.cell 9;have g10:=hq.cell 10;have g11:=hq.cell 11;have g12:=hq.cell 12;have g13:=hq.cell 13;have g14:=hq.cell 14;have g15:=hq.cell 15;have g16:=hq.cell 16;have g17:=hq.cell 17;have g18:=hq.cell 18;simp at g0 g1 g2 g3 g4 g5 g6 g7 g8 g9 g10 g11 g12 g13 g14 g15 g16 g17 g18;rw[Hk.out]at g2;have r2:=r1.mono (Zaa hb1);have hlit:∀(W:World) (n:Nat) (xs:List UInt8),Blk W n 5 (xs.map encB).toArray→w1.heap.size≤n→xs.length=3→OwnB W w1.heap.size (.slice (some ⟨n,0,none⟩) 3 3) xs:=fun W n xs hb hn hl=>OwnVec.lit hb hn hl.symm (by decide)
 clear r r1 hbk hsz hb1;have hRl:Hid (R.length=4+(6+m.crt.hdr.batches.flatten.length+m.crt.hdr.parents.flatten.length)+m.crt.voters.length):=by show _=_;rw[hR.out];simp only[List.length_append,List.length_cons,List.length_nil,List.length_map,headerB_len];omega
 have e3:=Zaw m.crt.voters.length;obtain⟨H,hH⟩:∃H,Hid (Zcb m.crt.hdr.author m.crt.hdr.round m.crt.hdr.batches m.crt.hdr.parents=H):=⟨_,rfl⟩;have hHl:H.length≤240:=by rw[←hH.out,headerB_len];omega
 rw[hH.out]at hR;generalize Zar m.crt.voters.length=U3 at e3 hR;obtain⟨Y,hY⟩:∃Y,Hid ([4,U1,U2]++H++[U3]=Y):=⟨_,rfl⟩;have hYl:Y.length≤300:=by rw[←hY.out];simp only[List.length_append,List.length_cons,List.length_nil];omega
 have hRY:Hid (R=Y++m.crt.voters.map Zar):=by show _=_;rw[hR.out,←hY.out];simp
 go_upto_region 13 with fail
 refine Zo fun W2 hk2 hsz2 hbl2=>?_
 have ho:=hlit W2 _ [4,U1,U2] hk2 (Nat.le_refl _) rfl;have hq2:=hq.kept hbl2;have hz2:=hbl2.size;clear g0 g1 g3 g4 g5 g6 g7 g8 g9 g10 g11 g12 g13 g14 g15 g16 g17 g18;clear hsz2
 go_cut [5] (fun v w'=>Blk w' w.heap.size 66 (msgC m (.slice tA m.bat.txs.length tc) (.slice bA m.hdr.batches.length bc) (.slice pA m.hdr.parents.length pc) (.slice dA m.slt.digest.length dc) (.slice cA m.crt.hdr.batches.length cc) (.slice qA m.crt.hdr.parents.length qc) (.slice vA m.crt.voters.length vc))∧OwnB w' w1.heap.size v Y∧Below w1.heap.size w1 w')
 case first =>
  refine Zt (fun w'=>Below W2.heap.size W2 w') (fun w'=>Blk w' w.heap.size 66 (msgC m (.slice tA m.bat.txs.length tc) (.slice bA m.hdr.batches.length bc) (.slice pA m.hdr.parents.length pc) (.slice dA m.slt.digest.length dc) (.slice cA m.crt.hdr.batches.length cc) (.slice qA m.crt.hdr.parents.length qc) (.slice vA m.crt.voters.length vc))) [12] (.q 0 (.q 1 (.q 2 (.q 3 (.q 5 (.q 6 (.q 7 (.q 8 (.q 9 (.alt 4 (.l 10 (.l 11 (.qc 12 .nil))) 10 (.l 4 (.l 11 (.qc 12 .nil))))))))))))) ?_ ?_
  ·exact⟨Zad _,hq2⟩
  intro W1 hS0 hS;have ho:=ho.kept hS0;have hbl2:=hbl2.trans (hS0.mono hz2);have hz2:=hbl2.size;clear hS0 hk2 hq2
  repeat((first|refine pq (h:=⟨_,fun w' hS=>by(have h13:=hS.cell 13;have h14:=hS.cell 14;have h15:=hS.cell 15;have h16:=hS.cell 16;have h17:=hS.cell 17;simp[msgC]at h13 h14 h15 h16 h17;go_simp;exact rfl),?_⟩)|refine Zq ?_);simp only[sx])
  refine Zcl ?_ ?_
  ·refine Zd fun K hK=>?_
   try simp only[sy]
   go_simp;refine(Zfw w1 _ [4,U1,U2] _ _ _ _ m.crt.hdr.batches m.crt.hdr.parents _ hbl2 ho (by omega) (by omega) r2.cbats r2.cpars (by simp only[List.length_cons,List.length_nil];omega)).mono ?_;rintro e w3 ⟨v2,rfl,b2,k2,o2⟩;rw[hH.out]at o2;have z2:=b2.size;refine hK.out _ _ (k2 _ _ _ (by decide) hS) fun hS=>?_
   clear hK K
   try simp only[sx]
   repeat((first|refine pq (h:=⟨_,fun w' hS=>by(have h13:=hS.cell 13;have h14:=hS.cell 14;have h15:=hS.cell 15;have h16:=hS.cell 16;have h17:=hS.cell 17;simp[msgC]at h13 h14 h15 h16 h17;go_simp;exact rfl),?_⟩)|refine Zq ?_);simp only[sx])
   refine Zd fun K hK=>?_
   try simp only[sy]
   go_simp;refine Zdf _ U3 (fun W=>K _ W) (fun w4 cA z4 b4=>?_);refine hK.out _ _ (hS.kept b4) fun hS=>?_
   clear hK K
   try simp only[sx]
   repeat((first|refine pq (h:=⟨_,fun w' hS=>by(have h13:=hS.cell 13;have h14:=hS.cell 14;have h15:=hS.cell 15;have h16:=hS.cell 16;have h17:=hS.cell 17;simp[msgC]at h13 h14 h15 h16 h17;go_simp;exact rfl),?_⟩)|refine Zq ?_);simp only[sx])
   refine Zd fun K hK=>?_
   try simp only[sy]
   refine Zb0 (n:=140737488355328) (W:=w1) (xs:=[4,U1,U2]++H) U3 Za9 _ _ rfl rfl (o2.kept b4) (b2.trans (b4.mono z2)) (Nat.le_trans z2 b4.size) rfl cA (by decide) (by simp only[List.length_append,List.length_cons,List.length_nil];omega) (fun v3 w5 o3 b3 g3 l3=>?_);refine hK.out _ _ (Zat (o2.kept b4) g3 _ _ _ (by decide) hS) fun hS=>?_
   clear hK K
   try simp only[sx]
   repeat(refine Zq ?_;simp only[sx])
   refine Zah ?_;go_wp2;go_meet;exact⟨hS,by rw[←hY.out];exact o3,b3⟩
  ·refine Zd fun K hK=>?_
   try simp only[sy]
   go_simp;refine Zdf _ U3 (fun W=>K _ W) (fun w3 cA z3 b3=>?_);refine hK.out _ _ (hS.kept b3) fun hS=>?_
   clear hK K
   try simp only[sx]
   repeat((first|refine pq (h:=⟨_,fun w' hS=>by(have h13:=hS.cell 13;have h14:=hS.cell 14;have h15:=hS.cell 15;have h16:=hS.cell 16;have h17:=hS.cell 17;simp[msgC]at h13 h14 h15 h16 h17;go_simp;exact rfl),?_⟩)|refine Zq ?_);simp only[sx])
   refine Zd fun K hK=>?_
   try simp only[sy]
   go_simp;have ho3:=ho.kept b3;refine(Zl3 w1 _ [4,U1,U2] _ _ _ _ m.crt.hdr.batches m.crt.hdr.parents _ (hbl2.trans (b3.mono hz2)) ho3 (by omega) (by omega) r2.cbats r2.cpars q4 q5 (by simp only[List.length_cons,List.length_nil];omega)).mono ?_;rintro e w4 ⟨v2,rfl,b2,k2,o2,gl⟩;rw[hH.out]at o2;have cA:=gl.cell cA (Zo3 ho);refine hK.out _ _ (k2 _ _ _ (by decide) hS) fun hS=>?_
   clear hK K
   try simp only[sx]
   repeat((first|refine pq (h:=⟨_,fun w' hS=>by(have h13:=hS.cell 13;have h14:=hS.cell 14;have h15:=hS.cell 15;have h16:=hS.cell 16;have h17:=hS.cell 17;simp[msgC]at h13 h14 h15 h16 h17;go_simp;exact rfl),?_⟩)|refine Zq ?_);simp only[sx])
   refine Zd fun K hK=>?_
   try simp only[sy]
   refine Zb0 (n:=140737488355328) (W:=w1) (xs:=[4,U1,U2]++H) U3 Za9 _ _ rfl rfl o2 b2 b2.size rfl cA (by decide) (by simp only[List.length_append,List.length_cons,List.length_nil];omega) (fun v3 w5 o3 b3 g3 l3=>?_);refine hK.out _ _ (Zat o2 g3 _ _ _ (by decide) hS) fun hS=>?_
   clear hK K
   try simp only[sx]
   repeat(refine Zq ?_;simp only[sx])
   refine Zah ?_;go_wp2;go_meet;exact⟨hS,by rw[←hY.out];exact o3,b3⟩
 case rest =>
  clear ho hk2 hq2 hbl2 hz2;obtain⟨hS,ho,hbl2⟩:=hcut;obtain⟨oA,oc,rfl⟩:=ho.form;have hz2:=hbl2.size;have g17:=hS.cell 17;simp[msgC]at g17;obtain⟨_,_,_,hvel⟩:=r2.vots.at;have Hvel:=Lib.hid hvel;clear hvel;go_wp2
  go_loopw [5,7,72] (fun v _ i wr=>∃k:Nat,k≤m.crt.voters.length∧i=.int .i64 k∧OwnB wr w1.heap.size v (Y++(m.crt.voters.take k).map Zar)∧Below w1.heap.size w1 wr) (fun _ _ i _=>m.crt.voters.length-(intOf i).toNat)
  case atStart=>exact⟨0,Nat.zero_le _,rfl,by simpa using ho,hbl2⟩
  case round =>
   clear ho hS g17 hbl2 hz2;obtain⟨k,hk,rfl,hown,hbl2⟩:=hrel;have hz2:=hbl2.size
   by_cases hlt:k<m.crt.voters.length
   ·obtain⟨b0,o0,rfl,q0'⟩:=Hvel.out k hlt;have c0:=Zaa hbl2 _ _ q0';have Hn:=Lib.hid (show(m.crt.voters.take (k+1)).map Zar=(m.crt.voters.take k).map Zar++[Zar m.crt.voters[k]] by rw[List.take_succ_eq_append_getElem hlt,List.map_append,List.map_singleton]);have hLl:((m.crt.voters.take k).map Zar).length≤4:=by simp;omega
    have e4:=Zaw m.crt.voters[k];generalize Zar m.crt.voters[k]=U4 at e4 Hn;generalize (m.crt.voters.take k).map Zar=Z at hown Hn hLl;generalize m.crt.voters[k]=x at c0 e4;clear q0'
    go_wp2_with (at_builtin;first
     |(refine Za5 (n:=140737488355328) (W:=w1) (ys:=[U4]) Za9 Zb8 _ _ rfl rfl rfl (hown.alloc _) (hbl2.alloc hz2 _) (Zau _ hz2) rfl (Zn6 (xs:=[U4]) (Blk.new _ _ _) (by simp) (by simp)) (by decide) (by simp only[List.length_append,List.length_cons,List.length_nil];omega) (by simp only[List.length_append,List.length_cons,List.length_nil];omega) ?_))
    intro v' w2 ho' hb' _;clear hown c0;go_wp2;go_roundw
    case rel=>exact⟨k+1,by omega,by go_num,by rw[Hn.out];simpa using ho',hb'⟩
    case measure=>simp[intOf];omega
   ·have hkl:k=m.crt.voters.length:=by omega
    rw[hkl,List.take_length]at hown;clear Hvel;go_wp2;go_ret2;exact⟨_,rfl,hbl1.trans (hbl2.mono hz1),by rw[hRY.out];exact hown.from_ (bs:=1) (by rw[←hRY.out,hRl.out];omega) hz1⟩
theorem Zxx(m:Msg)(hk:m.kind=5)(h0:msgF m=0)(vt vb vp vd cb cp cv:Value)(w:World)(r:RMsg w.cell? m vt vb vp vd cb cp cv)(hs:∀s∈m.bat.txs,s.size≤140737488355328) :
 Calls Tryz.prog 37 #[.agg (msgC m vt vb vp vd cb cp cv)] w fun e w'=>∃d,e=.returned (.tuple #[d,.int .i64 0])∧Below w.heap.size w w'∧Zao (View.from w'.cell? w.heap.size) d (msgB m):=by
 obtain⟨⟨tA,tc,rfl⟩,⟨bA,bc,rfl⟩,⟨pA,pc,rfl⟩,⟨dA,dc,rfl⟩,⟨cA,cc,rfl⟩,⟨qA,qc,rfl⟩,⟨vA,vc,rfl⟩⟩:=r.forms;have e1:=Zaw m.src;have e2:=Zaw m.dst;have hR:Hid (msgB m=[5,Zar m.src,Zar m.dst]++Zb9 m.round):=by show _=_;simp[msgB,Zdl,hk,Zar]
 generalize Zar m.src=U1 at e1 hR;generalize Zar m.dst=U2 at e2 hR;generalize msgB m=R at hR⊢;obtain⟨q0,q1⟩:=body_5 hk h0;have Hk:=Lib.hid hk;have H0:=Lib.hid h0;clear hk h0;unfold msgC
 go_enter Tryz.func37,Tryz.ntmps37
 go_upto_region 1 with fail
 refine Zo fun W hbk hsz hbl=>?_
 have r1:=r.mono (Zaa hbl)
 go_wp2_with (refine wpList_load_row rfl 66 _ rfl _ rfl _ _ _ _ hbk Tryz.underlying66 rfl (by kernel_rfl) ?_)
 refine(Zd4 m _ _ _ _ _ _ _ _ r1 hs).mono ?_;rintro e w1 ⟨rfl,hb1⟩;rw[H0.out];have hbl1:=hbl.trans (hb1.mono hbl.size);have hz1:=hbl1.size;have hq:=hbk.kept hb1;have hlt1:=hq.lt;have g0:=hq.cell 0;have g1:=hq.cell 1;have g2:=hq.cell 2;have g3:=hq.cell 3;have g4:=hq.cell 4;have g5:=hq.cell 5;have g6:=hq.cell 6;have g7:=hq.cell 7;have g8:=hq.cell 8;have g9:=hq.cell 9;have g10:=hq.cell 10;have g11:=hq.cell 11;have g12:=hq.cell 12;have g13:=hq.cell 13;have g14:=hq.cell 14;have g15:=hq.cell 15;have g16:=hq.cell 16;have g17:=hq.cell 17;have g18:=hq.cell 18;simp at g0 g1 g2 g3 g4 g5 g6 g7 g8 g9 g10 g11 g12 g13 g14 g15 g16 g17 g18;rw[Hk.out]at g2;have r2:=r1.mono (Zaa hb1);have hlit:∀(W:World) (n:Nat) (xs:List UInt8),Blk W n 5 (xs.map encB).toArray→w1.heap.size≤n→xs.length=3→OwnB W w1.heap.size (.slice (some ⟨n,0,none⟩) 3 3) xs:=fun W n xs hb hn hl=>OwnVec.lit hb hn hl.symm (by decide)
 clear r r1 hbk hsz hb1;have hRl:Hid (R.length=6):=by show _=_;rw[hR.out];rfl
 go_wp2_with fail
 refine(Zfq _ m.round [5,U1,U2] w1.heap.size _ (hlit _ _ [5,U1,U2] (Blk.new _ _ _) (Nat.le_refl _) rfl) (by simp) (by omega) (by omega) (by simp)).mono ?_;rintro e w2 ⟨v2,rfl,hb2',hkp,ho2,_⟩;have hb2:=(Zac w1 (.cells #[.int .u8 5,.int .u8 U1.toNat,.int .u8 U2.toNat] 5)).trans hb2';clear g0 g1 g3 g4 g5 g6 g7 g8 g9 g10 g11 g12 g13 g14 g15 g16 g17 g18;go_wp2;go_ret2;exact⟨_,rfl,hbl1.trans (hb2.mono hz1),by rw[hR.out];exact(ho2).from_ (bs:=1) (by rw[←hR.out];rw[hRl.out];omega) hz1⟩
theorem Zmu(m:Msg)(vt vb vp vd cb cp cv:Value)(w:World)(r:RMsg w.cell? m vt vb vp vd cb cp cv)(hs:∀s∈m.bat.txs,s.size≤140737488355328) :
 Calls Tryz.prog 37 #[.agg (msgC m vt vb vp vd cb cp cv)] w fun e w'=>∃d,e=.returned (.tuple #[d,.int .i64 (msgF m)])∧Below w.heap.size w w'∧Zao (View.from w'.cell? w.heap.size) d (Zqa m):=by
 by_cases h0:msgF m=0
 ·rw[h0,show Zqa m=msgB m from if_pos h0]
  rcases(msgF_zero h0).1 with hk|hk|hk|hk|hk
  ·exact Zx1 m hk h0 _ _ _ _ _ _ _ w r hs
  ·exact Zx0 m hk h0 _ _ _ _ _ _ _ w r hs
  ·exact Zxz m hk h0 _ _ _ _ _ _ _ w r hs
  ·exact Zxy m hk h0 _ _ _ _ _ _ _ w r hs
  ·exact Zxx m hk h0 _ _ _ _ _ _ _ w r hs
 ·rw[show Zqa m=[] from if_neg h0];obtain⟨E,hE⟩:∃E,Hid (msgF m=E):=⟨_,rfl⟩;have h0':¬E=0:=by rw[←hE.out];exact h0
  rw[hE.out];clear h0;unfold msgC
  go_enter Tryz.func37,Tryz.ntmps37
  go_upto_region 1 with fail
  refine Zo fun W hbk hsz hbl=>?_
  have r1:=r.mono (Zaa hbl)
  go_wp2_with (refine wpList_load_row rfl 66 _ rfl _ rfl _ _ _ _ hbk Tryz.underlying66 rfl (by kernel_rfl) ?_)
  refine(Zd4 m _ _ _ _ _ _ _ _ r1 hs).mono ?_;rintro e w1 ⟨rfl,hb1⟩;rw[hE.out];have hbl1:=hbl.trans (hb1.mono hbl.size);clear r r1 hbk hsz hb1 hE;go_wp2;go_ret2;exact⟨_,rfl,hbl1,RVec.nil _ _ _⟩
end Go.Proofs.YtinibgklgehdpaaGreatDoor
