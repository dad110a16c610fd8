/- A part of what the last text stands on. -/
import Derived.Test.YtinibgklgehdpaaGreatDoorK15
import Derived.Test.YtinibgklgehdpaaGreatDoorK33
import Derived.Test.YtinibgklgehdpaaGreatDoorK35
namespace Go.Proofs.YtinibgklgehdpaaGreatDoor
open Go.ChangeShapes Go.WideShapes Go.ChangeAt Go.RowKit Qa Qb Qc
set_option linter.all false
set_option maxHeartbeats 20000000
set_option maxRecDepth 100000
variable{v:Value}{i:Nat}{f:Fl.Ft}
namespace Fl
theorem Zrk(gf:Nat)(f:Ft)(p:Int)(o:Own)(w:World)(hF:FtAt o w gf f)(hp:0≤p)(h4:f.away.length≤400) :
 Calls Tryz.prog 84 #[.pointer (some ⟨gf,0,none⟩),.int .i64 p] w fun e w'=>e=.returned (.int .i64 (if f.away.length=0 then -1 else(pick f p:Int)))∧w'=w:=by
 obtain⟨va,g62,ra⟩:=id hF.away;have z62:=g62.cell (j:=0) (show 0<1 by decide);simp at z62;obtain⟨vaA,vac,hva⟩:=ra.form;subst hva;obtain⟨n,hn⟩:∃n,Hid (f.away.length=n):=⟨_,rfl⟩;rw[hn.out]at z62 h4⊢
 have hpk:Hid (0<n→(pick f p:Int)=Int.tmod p n):=by
  intro h0;unfold pick;rw[hn.out,Int.tmod_eq_emod_of_nonneg hp];have:=Int.emod_nonneg p (show(n:Int)≠0 by omega);omega
 obtain⟨PK,hPK⟩:∃x,Hid ((pick f p:Int)=x):=⟨_,rfl⟩;rw[hPK.out]at hpk⊢;clear hF ra g62
 go_enter Tryz.func84,Tryz.ntmps84
 by_cases h0:n=0
 ·subst h0;go_wp2;go_ret;exact⟨rfl,rfl⟩
 ·have h0I:¬(n:Int)=0:=by omega
  have h0b:((n:Int)==0)=false:=by simpa using h0
  have hm:=hpk.out (by omega);have hm2:Int.tmod p n=PK:=hm.symm;have Hm:=Lib.hid hm;clear hm;go_wp2;go_ret;exact⟨by simp[h0],rfl⟩
theorem Zsr(gf i:Nat)(f:Ft)(o:Own)(w:World)(hF:FtAt o w gf f)(hi:i<f.away.length)(h4:f.away.length≤400) :
 Calls Tryz.prog 85 #[.pointer (some ⟨gf,0,none⟩),.int .i64 (i:Int)] w fun e w'=>∃vt vb vp vd cb cp cv,e=.returned (.agg (msgC f.away[i] vt vb vp vd cb cp cv))∧∃o',Fr All o w o' w'∧FtAt o' w' gf {f with away:=f.away.eraseIdx i }∧RMsg (Zas o' w') f.away[i] vt vb vp vd cb cp cv∧∀s∈f.away[i].bat.txs,s.size≤140737488355328:=by
 have l0:=hF.lim;have hb1:=Zac w (.cells #[.int .i64 0,.int .i64 0,.int .i64 0,.int .i64 0,.int .i64 0,.slice none 0 0,.int .i64 0,.int .i64 0,.slice none 0 0,.slice none 0 0,.int .i64 0,.int .i64 0,.slice none 0 0,.int .i64 0,.int .i64 0,.slice none 0 0,.slice none 0 0,.slice none 0 0,.int .i64 0] 66);have hk4:=Blk.new w 66 #[.int .i64 0,.int .i64 0,.int .i64 0,.int .i64 0,.int .i64 0,.slice none 0 0,.int .i64 0,.int .i64 0,.slice none 0 0,.slice none 0 0,.int .i64 0,.int .i64 0,.slice none 0 0,.int .i64 0,.int .i64 0,.slice none 0 0,.slice none 0 0,.slice none 0 0,.int .i64 0];have f1:=Zvj (T:=fun _=>False) l0 hb1 (b:=w.heap.size) (Nat.le_refl _) hk4.lt;have m7:=Zc7 o w.heap.size (some (7,w.heap.size));have F1:=hF.fr f1 (fun _ _ _ _ h=>h) (fun h=>h);have A1:Fr All o w _ _:=f1.all;obtain⟨w1,hw1⟩:∃x:World,x=w.alloc (.cells #[.int .i64 0,.int .i64 0,.int .i64 0,.int .i64 0,.int .i64 0,.slice none 0 0,.int .i64 0,.int .i64 0,.slice none 0 0,.slice none 0 0,.int .i64 0,.int .i64 0,.slice none 0 0,.int .i64 0,.int .i64 0,.slice none 0 0,.slice none 0 0,.slice none 0 0,.int .i64 0] 66):=⟨_,rfl⟩;rw[←hw1]at hk4 F1 A1;generalize mark o w.heap.size (some (7,w.heap.size))=o1 at *;obtain⟨va,g62,ra⟩:=id F1.away;have z62:=g62.cell (j:=0) (show 0<1 by decide);simp at z62;have hrd:=ra.ownSl.reads (bs:=264) (fun _ _ _ _ hx _=>hx) (by omega);obtain⟨A9,c9,rfl,-,-,-,-,h59⟩:=hrd;obtain⟨bb,bo,hA,hcc⟩:=h59 (by omega);subst hA;obtain⟨cs9,-,hcell,⟨vt,vb,vp,vd,cb,cp,cv,rfl,rm⟩,hts⟩:=hcc i hi;obtain⟨n,hn⟩:∃n,Hid (f.away.length=n):=⟨_,rfl⟩;have hi':=hi;rw[hn.out]at hi' z62;have h4':=h4;rw[hn.out]at h4';have Hi:=Lib.hid hi;have H4:=Lib.hid h4;have hiI:(i:Int)<n:=by omega
 have hra:Row o1 (5,0) 19 RMsgZ 66 w1 _ f.away:=ra;obtain⟨L,hL⟩:∃L,Hid (f.away.eraseIdx i=L):=⟨_,rfl⟩;rw[hL.out];have rm':RMsg (Zas o1 w1) f.away[i] vt vb vp vd cb cp cv:=rm;generalize hmm:f.away[i]=m at *;clear hmm;replace rm:=rm';clear rm';have rm0:=rm;obtain⟨⟨tA,tc,rfl⟩,⟨bA,bc,rfl⟩,⟨pA,pc,rfl⟩,⟨dA',dc',rfl⟩,⟨cA,cc,rfl⟩,⟨qA,qc,rfl⟩,⟨eA,ec,rfl⟩⟩:=rm0.forms;clear rm0 h59 hcc h4 hi
 have hcs:∀j v,(#[.int .i64 m.src,.int .i64 m.dst,.int .i64 m.kind,.int .i64 m.bat.author,.int .i64 m.bat.number,.slice tA m.bat.txs.length tc,.int .i64 m.hdr.author,.int .i64 m.hdr.round,.slice bA m.hdr.batches.length bc,.slice pA m.hdr.parents.length pc,.int .i64 m.slt.author,.int .i64 m.slt.round,.slice dA' m.slt.digest.length dc',.int .i64 m.crt.hdr.author,.int .i64 m.crt.hdr.round,.slice cA m.crt.hdr.batches.length cc,.slice qA m.crt.hdr.parents.length qc,.slice eA m.crt.voters.length ec,.int .i64 m.round]:Array Value).toList[j]?=some v→(w1.alloc (.cells #[.int .i64 0,.int .i64 0,.int .i64 0,.int .i64 0,.int .i64 0,.slice none 0 0,.int .i64 0,.int .i64 0,.slice none 0 0,.slice none 0 0,.int .i64 0,.int .i64 0,.slice none 0 0,.int .i64 0,.int .i64 0,.slice none 0 0,.slice none 0 0,.slice none 0 0,.int .i64 0] 66)).cell? ((⟨bb,bo+i*19,none⟩:Addr).add j)=some v:=fun j v hj=>by
  have hj':j<19:=(List.getElem?_eq_some_iff.1 hj).1;rw[Zbs];exact Zaa (Zac _ _) _ _ ((hcell j hj').trans hj)
 have hcs1:∀j v,(#[.int .i64 m.src,.int .i64 m.dst,.int .i64 m.kind,.int .i64 m.bat.author,.int .i64 m.bat.number,.slice tA m.bat.txs.length tc,.int .i64 m.hdr.author,.int .i64 m.hdr.round,.slice bA m.hdr.batches.length bc,.slice pA m.hdr.parents.length pc,.int .i64 m.slt.author,.int .i64 m.slt.round,.slice dA' m.slt.digest.length dc',.int .i64 m.crt.hdr.author,.int .i64 m.crt.hdr.round,.slice cA m.crt.hdr.batches.length cc,.slice qA m.crt.hdr.parents.length qc,.slice eA m.crt.voters.length ec,.int .i64 m.round]:Array Value).toList[j]?=some v→w1.cell? ((⟨bb,bo+i*19,none⟩:Addr).add j)=some v:=fun j v hj=>by
  have hj':j<19:=(List.getElem?_eq_some_iff.1 hj).1;rw[Zbs];exact(hcell j hj').trans hj
 have hn5:=Blk.new w1 66 #[.int .i64 0,.int .i64 0,.int .i64 0,.int .i64 0,.int .i64 0,.slice none 0 0,.int .i64 0,.int .i64 0,.slice none 0 0,.slice none 0 0,.int .i64 0,.int .i64 0,.slice none 0 0,.int .i64 0,.int .i64 0,.slice none 0 0,.slice none 0 0,.slice none 0 0,.int .i64 0];have hb5:=Zac w1 (.cells #[.int .i64 0,.int .i64 0,.int .i64 0,.int .i64 0,.int .i64 0,.slice none 0 0,.int .i64 0,.int .i64 0,.slice none 0 0,.slice none 0 0,.int .i64 0,.int .i64 0,.slice none 0 0,.int .i64 0,.int .i64 0,.slice none 0 0,.slice none 0 0,.slice none 0 0,.int .i64 0] 66);clear hcell
 go_enter Tryz.func85,Tryz.ntmps85
 go_upto_region 1 with fail
 rw[←hw1];have Hw1:=Lib.hid hw1;clear hw1
 go_wp2_with (first|(refine Zbd (n:=19) (#[.int .i64 m.src,.int .i64 m.dst,.int .i64 m.kind,.int .i64 m.bat.author,.int .i64 m.bat.number,.slice tA m.bat.txs.length tc,.int .i64 m.hdr.author,.int .i64 m.hdr.round,.slice bA m.hdr.batches.length bc,.slice pA m.hdr.parents.length pc,.int .i64 m.slt.author,.int .i64 m.slt.round,.slice dA' m.slt.digest.length dc',.int .i64 m.crt.hdr.author,.int .i64 m.crt.hdr.round,.slice cA m.crt.hdr.batches.length cc,.slice qA m.crt.hdr.parents.length qc,.slice eA m.crt.voters.length ec,.int .i64 m.round]:Array Value).toList rfl rfl rfl rfl (by kernel_rfl) (by kernel_rfl) (by kernel_rfl) hcs1 ?_)|(refine Zbd (n:=19) (#[.int .i64 m.src,.int .i64 m.dst,.int .i64 m.kind,.int .i64 m.bat.author,.int .i64 m.bat.number,.slice tA m.bat.txs.length tc,.int .i64 m.hdr.author,.int .i64 m.hdr.round,.slice bA m.hdr.batches.length bc,.slice pA m.hdr.parents.length pc,.int .i64 m.slt.author,.int .i64 m.slt.round,.slice dA' m.slt.digest.length dc',.int .i64 m.crt.hdr.author,.int .i64 m.crt.hdr.round,.slice cA m.crt.hdr.batches.length cc,.slice qA m.crt.hdr.parents.length qc,.slice eA m.crt.voters.length ec,.int .i64 m.round]:Array Value).toList rfl rfl rfl rfl (by kernel_rfl) (by kernel_rfl) (by kernel_rfl) hcs ?_)|(refine Zj 19 hn5 ?_))
 intro w2 hX hgX;have hbX:Below w1.heap.size w1 w2:=Zab hb5 hb5.size hgX (by intro k e;injection e;omega);have l1:=F1.lim;have F2:=F1.below hbX;have l2:=F2.lim;have A2:=All.trans A1 (Fr.of_below (T:=All) l1 hbX);have hx0:=l1.none w1.heap.size (Nat.le_refl _);have hk42:=hk4.kept hbX;have rm2:=rm.mono (Zae l1 hbX);have ra2:=hra.fr RMsgZ.mono (Fr.of_below (T:=fun _=>False) l1 hbX) (fun h=>h);have g622:=g62.fr (Fr.of_below (T:=fun _=>False) l1 hbX) F1.mark (fun h=>h);rw[hn.out]at ra2 g622;have z622:=g622.cell (j:=0) (show 0<1 by decide);simp at z622;obtain⟨j,hj⟩:∃j,j=i+1:=⟨_,rfl⟩;have hd:=Zqv (5,0) _ f.away i o1 w2 l2 ra2 Hi.out H4.out;rw[←hj]at hd;have hij:(i:Int)+1=(j:Int):=by omega
 have hw1:IntKind.i64.wrap (j:Int)=j:=by rw[IntKind.wrap_i64];omega
 clear hcs hcs1 hn5 hb5 hgX hj hra F1 A1 rm hk4 g62 z62 ra
 go_wp2_with fail
 refine hd.mono ?_;rintro e w4 ⟨v4,rfl,f4,r4⟩;rw[hL.out]at r4;obtain⟨v4A,v4c,rfl⟩:=r4.form;have g624:=g622.fr f4 F2.mark (by simp);clear hd z622
 go_wp2_with (refine Sec.store g624 (i:=0) [.slice v4A L.length v4c] (show 0+1≤1 by decide) rfl rfl rfl rfl (by kernel_rfl) rfl rfl ?_)
 intro w5 S5 hg5 h5;have F5:=F2.newAway f4 r4 S5 hg5 h5;have m5':=Zb5 F2.sg.rogue.lt f4 F2.mark (by simp);have k5:=Zaq f4.lim hg5 m5';have A5:=All.trans A2 (All.trans f4.all k5.all);have hk45:=Zmz (Zmz hk42 f4 m7 (by simp)) k5 (Zb5 hk42.lt f4 m7 (by simp)) (by simp);have hX5:=Za3 (Za3 hX f4 hx0) k5 hx0;have rm5:=(rm2.mono f4.view).mono k5.view;clear F2 A2 hk42 rm2 ra2 g622 f4 r4 g624 hg5 h5 k5 S5
 go_wp2_with (first|(refine wpList_load_row rfl 66 _ rfl _ rfl _ _ _ _ hX5 Tryz.underlying66 rfl (by kernel_rfl) ?_)|(refine Zj 19 hk45 ?_))
 intro w6 hk6 hg6;have k6:=Zaq F5.lim hg6 m7;have F6:=F5.fr k6 (fun j m _ _ e=>by injection e;omega) (by simp);have A6:=All.trans A5 k6.all;have rm6:=rm5.mono k6.view;clear F5 A5 rm5 hX5 hk45 hX;go_wp2;refine bodyPost_ret (Zay rfl rfl (by kernel_rfl) (by kernel_rfl) hk6 rfl) rfl ?_;exact⟨_,_,_,_,_,_,_,rfl,o1,A6,F6,rm6,hts⟩
theorem Zqd(h:MI f)(hi:i<4):∃ms j,NI f.signs f.rogue i (Zan f i) ms j:=by
 obtain⟨ms,j,p,_⟩:=h.wi.node i (by omega) (by omega);exact⟨ms,j,p⟩
theorem Zz9(gf:Nat)(f:Ft)(a:At)(o:Own)(w:World)(hF:FtAt o w gf f)(hT:Tabs (Zas o w))(hM:MI f)(ha:AOk a)(hp:a.pick≤400000)(hr:a.node≠f.rogue)(hsg:f.signs.length≤1000000000) :
 Calls Tryz.prog 87 #[.pointer (some ⟨gf,0,none⟩),.agg #[.int .i64 a.kind,.int .i64 a.node,.int .i64 a.pick,.string a.text]] w fun e w'=>e=.returned (.tuple #[])∧∃o',Fr All o w o' w'∧FtAt o' w' gf (act f a):=by
 obtain⟨QR,hQR⟩:∃q,Hid (act f a=q):=⟨_,rfl⟩;rw[hQR.out];obtain⟨i,hi⟩:∃i:Nat,a.node=i:=⟨a.node.toNat,by have:=ha.1.1;omega⟩;have hi4:i<4:=by have:=ha.1.2;omega
 obtain⟨kp,hkp⟩:∃k:Nat,a.pick=k:=⟨a.pick.toNat,by have:=ha.2;omega⟩;obtain⟨ms,jj,hN⟩:=Zqd hM hi4;have hfit:=Lib.hid (NFit.of hN (hM.mn i (by omega) (by omega)));have hmeN:Hid ((Zan f i).me=(i:Int)):=hN.me;have htuN:=Lib.hid hN.turn;have htapN:=Lib.hid hN.tap.may;have hawN:=Lib.hid hM.away;have hcrN:=Lib.hid (Zvu hN (keep:=(kp:Int)) (by omega));have Hsg:=Lib.hid hsg;obtain⟨n,hn⟩:∃n,Hid (Zan f i=n):=⟨_,rfl⟩
 have HQ:Hid (QR=if a.kind=8 then Za1 f i {n with up:=true } else if n.up=false then f else if a.kind=2 then Za1 f i (work n)else if a.kind=3 then sync f i else if a.kind=7 then Za1 f i (crash n i kp)else f):=by
  show _=_;rw[←hQR.out];unfold act;simp only;rw[hi,hkp,hn.out]
 obtain⟨K,hK⟩:∃K,Hid (a.kind=K):=⟨_,rfl⟩;rw[hK.out]at HQ⊢;rw[hi,hkp];have hkpI:(kp:Int)≤400000:=by omega
 have hkp4:kp≤400000:=by omega
 have hiI:(i:Int)<4:=by omega
 have hi0:(0:Int)≤(i:Int):=by omega
 clear ha hp hr hM hN hi hkp hsg hQR
 go_enter Tryz.func87,Tryz.ntmps87
 go_upto_region 1 with fail
 refine Zo fun W hk hsz hb=>?_
 have F1:=hF.below hb;have T1:=hT.mono (Zae hF.lim hb);have A1:Fr All o w o W:=Fr.of_below hF.lim hb;have c0:=hk.cell 0;have c1:=hk.cell 1;have c2:=hk.cell 2;simp at c0 c1 c2;clear hF hT hsz;refine Zr [6] (.q 0 (.q 1 (.q 2 (.q 3 (.q 4 (.q 5 (.qc 6 .nil))))))) fun W2 hS2=>?_
 repeat((first|refine pq (h:=⟨_,fun w' hS=>by(have z0:=Zaa hS _ _ c0;have z1:=Zaa hS _ _ c1;go_simp;exact rfl),?_⟩)|refine Zq ?_);simp only[sx])
 refine Zah ?_;have l1:=F1.lim;have F2:=F1.below hS2;have T2:=T1.mono (Zae l1 hS2);have A2:=All.trans A1 (Fr.of_below (T:=All) l1 hS2);have l2:=F2.lim;have d0:=Zaa hS2 _ _ c0;have d1:=Zaa hS2 _ _ c1;have d2:=Zaa hS2 _ _ c2;have N2:=F2.node i hi4;rw[hn.out]at N2 hfit hmeN htuN htapN hcrN;obtain⟨hm2,⟨xtx,xba,xdi,xta,xda,xow,xmi,xvo,xtp,xou⟩,S2,R2⟩:=id N2;have s1:=S2.nd1;clear F1 T1 A1 l1 c0 c1 c2 hk hb hS2
 by_cases k8:K=8
 ·have kb:(K==8)=true:=by simpa using k8
  have hq:Hid (QR=Za1 f i {n with up:=true }):=by show _=_;rw[HQ.out,if_pos k8]
  clear k8 HQ
  go_wp2_with (refine Sec.store S2 (i:=1) [.bool true] (show 1+1≤15 by decide) rfl rfl rfl rfl (by kernel_rfl) rfl rfl ?_)
  intro w3 S3 hg3 h3;have f3:=Zaq l2 hg3 hm2;have R3:=(R2.fr f3 (fun k e=>by injection e;omega)).setUp true;have K3:NFr i 0 gf (1+i*15) o W2 o w3:=(NFr.refl l2).store hm2 hg3 h3 (show 1+1≤15 by decide);have N3:NodeAt o w3 i 0 gf (1+i*15) {n with up:=true }:=⟨hm2,_,S3.putUp,R3⟩;have F3:=F2.step hi4 K3 N3;rw[←hq.out]at F3;have A3:=All.trans A2 K3.fr.all;clear S3 R3 N3 S2 R2 N2;go_wp2;go_end0;exact⟨rfl,o,A3,F3⟩
 have kb:(K==8)=false:=by simpa using k8
 obtain⟨UP,hUP⟩:∃u,Hid (n.up=u):=⟨_,rfl⟩;rw[hUP.out]at s1;cases UP
 ·have hq:Hid (QR=f):=by show _=_;rw[HQ.out,if_neg k8,if_pos hUP.out]
  rw[←hq.out]at F2;clear k8 HQ S2 R2 N2;go_wp2;go_end0;exact⟨rfl,o,A2,F2⟩
 have HQ2:Hid (QR=if K=2 then Za1 f i (work n)else if K=3 then sync f i else if K=7 then Za1 f i (crash n i kp)else f):=by
  show _=_;rw[HQ.out,if_neg k8,if_neg (by rw[hUP.out];decide)]
 clear HQ k8 S2 R2
 by_cases k2:K=2
 ·have kb2:(K==2)=true:=by simpa using k2
  have hq:Hid (QR=Za1 f i (work n)):=by show _=_;rw[HQ2.out,if_pos k2]
  clear k2 HQ2
  go_wp2_with fail
  refine(Zwe i 0 gf (1+i*15) n o W2 l2 (by omega) N2 T2 hfit.out (by rw[hmeN.out];omega) htuN.out).mono ?_;rintro e w3 ⟨rfl,o3,K3,N3⟩;have F3:=F2.step hi4 K3 N3;rw[←hq.out]at F3;have A3:=All.trans A2 K3.fr.all;go_wp2;go_end0;exact⟨rfl,o3,A3,F3⟩
 have kb2:(K==2)=false:=by simpa using k2
 by_cases k3:K=3
 ·have kb3:(K==3)=true:=by simpa using k3
  have hq:Hid (QR=sync f i):=by show _=_;rw[HQ2.out,if_neg k2,if_pos k3]
  clear k2 k3 HQ2 N2
  go_wp2_with fail
  refine(Zwv i gf f o W2 hi4 F2 T2 (by rw[hn.out];exact htapN.out) (by rw[hn.out];exact hfit.out.out) hawN.out Hsg.out).mono ?_;rintro e w3 ⟨rfl,o3,A3,F3⟩;rw[←hq.out]at F3;go_wp2;go_end0;exact⟨rfl,o3,All.trans A2 A3,F3⟩
 have kb3:(K==3)=false:=by simpa using k3
 by_cases k7:K=7
 ·have kb7:(K==7)=true:=by simpa using k7
  have hq:Hid (QR=Za1 f i (crash n i kp)):=by show _=_;rw[HQ2.out,if_neg k2,if_neg k3,if_pos k7]
  clear k2 k3 k7 HQ2 N2
  go_wp2_with fail
  refine(Zvv i gf f kp o W2 hi4 F2 T2 (by rw[hn.out];exact hmeN.out) (by rw[hn.out];exact htapN.out) hkp4 (by rw[hn.out];exact hcrN.out)).mono ?_;rintro e w3 ⟨rfl,o3,A3,F3⟩;rw[hn.out,←hq.out]at F3;go_wp2;go_end0;exact⟨rfl,o3,All.trans A2 A3,F3⟩
 have kb7:(K==7)=false:=by simpa using k7
 have hq:Hid (QR=f):=by show _=_;rw[HQ2.out,if_neg k2,if_neg k3,if_neg k7]
 rw[←hq.out]at F2;clear k2 k3 k7 HQ2 N2;go_wp2;go_end0;exact⟨rfl,o,A2,F2⟩
def subE(rogue:Int)(n:Nd)(t:ByteArray):Int:=if n.up=false∨n.me=rogue then 12 else addF n.nx n.txs t
def subN(rogue:Int)(n:Nd)(t:ByteArray):Nd:=if subE rogue n t=0 then {n with txs:=n.txs++[t] } else n
theorem Zsj(gf i:Nat)(rogue:Int)(signs:List Sign)(n:Nd)(t:ByteArray)(o:Own)(w:World)(hl:Lim o w)(hi:i<4)(hG:SgAt o w gf rogue signs)(hN:NodeAt o w i 0 gf (1+i*15) n)(hp:Zdp n.nx n.txs=0)(ht:t.size≤140737488355328) :
 Calls Tryz.prog 83 #[.pointer (some ⟨gf,0,none⟩),.pointer (some ⟨gf,1+i*15,none⟩),.string t] w fun e w'=>e=.returned (.int .i64 (subE rogue n t))∧NFr i 0 gf (1+i*15) o w o w'∧NodeAt o w' i 0 gf (1+i*15) (subN rogue n t):=by
 obtain⟨E,hE⟩:∃E,Hid (subE rogue n t=E):=⟨_,rfl⟩;have HN:Hid (subN rogue n t=if E=0 then {n with txs:=n.txs++[t] } else n):=by show _=_;unfold subN;rw[hE.out]
 have HE:Hid (E=if n.up=false∨n.me=rogue then 12 else addF n.nx n.txs t):=hE.out.symm;rw[hE.out];have Hp:=Lib.hid hp;have Ht:=Lib.hid ht;clear hp ht hE;obtain⟨hmk,⟨vtx,vba,vdi,vta,vda,vow,vmi,vvo,vtp,vou⟩,S1,R1⟩:=id hN;have s0:=S1.nd0;have s1:=S1.nd1;have s2:=S1.nd2;have s3:=S1.nd3;simp only at s0 s1 s2 s3;have g0:=hG.rogue.cell (j:=0) (show 0<1 by decide);simp at g0;obtain⟨UP,hUP⟩:∃u,Hid (n.up=u):=⟨_,rfl⟩;rw[hUP.out]at s1;have rtx:RTexts w.cell? vtx n.txs:=R1.tx.mono (Zag _ _);have small:=R1.small;obtain⟨txA,txc,htx,_⟩:=id rtx;have htx:vtx=.slice txA n.txs.length txc:=htx;subst htx;have hG':=hG
 go_enter Tryz.func83,Tryz.ntmps83
 go_upto_region 1 with fail
 have bad:∀(W:World),Below w.heap.size w W→∀F:Int,F≠0→Hid (E=F)→NodeAt o W i 0 gf (1+i*15) (subN rogue n t):=fun W hW F hF hEF=>by
  rw[HN.out,if_neg (by rw[hEF.out];exact hF)];exact hN.below hl hW
 cases UP
 ·have hq:Hid (E=12):=by show _=_;rw[HE.out,if_pos (.inl hUP.out)]
  refine Zr [] (.q 0 (.q 1 (.q 2 (.q 3 (.q 4 (.q 5 (.q 6 (.q 7 (.q 8 (.q 9 (.q 10 (.q 11 (.q 12 (.q 13 (.q 14 (.q 15 .nil)))))))))))))))) fun W2 hS2=>?_
  repeat((first|refine pq (h:=⟨_,fun w' hS=>by(have z0:=Zaa hS _ _ s0;have z1:=Zaa hS _ _ s1;have z2:=Zaa hS _ _ g0;go_simp;exact rfl),?_⟩)|refine Zq ?_);simp only[sx])
  refine Zah ?_;have hb:=bad W2 hS2 12 (by decide) hq;go_wp2;go_ret;exact⟨Zaj hq.out.symm,(NFr.refl hl).below hS2,hb⟩
 by_cases hr:n.me=rogue
 ·have hrb:(n.me==rogue)=true:=by simpa using hr
  have hq:Hid (E=12):=by show _=_;rw[HE.out,if_pos (.inr hr)]
  clear hr;refine Zr [] (.q 0 (.q 1 (.q 2 (.q 3 (.q 4 (.q 5 (.q 6 (.q 7 (.q 8 (.q 9 (.q 10 (.q 11 (.q 12 (.q 13 (.q 14 (.q 15 .nil)))))))))))))))) fun W2 hS2=>?_
  repeat((first|refine pq (h:=⟨_,fun w' hS=>by(have z0:=Zaa hS _ _ s0;have z1:=Zaa hS _ _ s1;have z2:=Zaa hS _ _ g0;go_simp;exact rfl),?_⟩)|refine Zq ?_);simp only[sx])
  refine Zah ?_;have hb:=bad W2 hS2 12 (by decide) hq;go_wp2;go_ret;exact⟨Zaj hq.out.symm,(NFr.refl hl).below hS2,hb⟩
 have hrb:(n.me==rogue)=false:=by simpa using hr
 have hq:Hid (E=addF n.nx n.txs t):=by show _=_;rw[HE.out,if_neg (fun e=>e.elim (fun h=>by rw[hUP.out]at h;cases h) hr)]
 clear hr HE;refine Zr [] (.q 0 (.q 1 (.q 2 (.q 3 (.q 4 (.q 5 (.q 6 (.q 7 (.q 8 (.q 9 (.q 10 (.q 11 (.q 12 (.q 13 (.q 14 (.q 15 .nil)))))))))))))))) fun W2 hS2=>?_
 repeat((first|refine pq (h:=⟨_,fun w' hS=>by(have z0:=Zaa hS _ _ s0;have z1:=Zaa hS _ _ s1;have z2:=Zaa hS _ _ g0;go_simp;exact rfl),?_⟩)|refine Zq ?_);simp only[sx])
 refine Zah ?_;have y2:=Zaa hS2 _ _ s2;have y3:=Zaa hS2 _ _ s3;have l2:=Zam hl hS2;have N2:=hN.below hl hS2;have K2:NFr i 0 gf (1+i*15) o w o W2:=(NFr.refl hl).below hS2;have rtx2:=rtx.mono (Zaa hS2);clear s0 s1 s2 s3 g0 S1 R1
 by_cases h0:E=0
 rotate_left
 ·go_wp2_with fail
  refine(Zp5 n.nx _ n.txs t W2 rtx2 small Ht.out E hq.out.symm h0 (fun h=>(Zdu.1 h).2.1)).mono ?_;rintro e w3 ⟨rfl,hb3⟩;have hb:=bad w3 (hS2.trans (hb3.mono hS2.size)) E h0 rfl;have K3:=K2.below hb3;have hEb:(E==0)=false:=by simpa using h0
  have l3:=Zam l2 hb3;clear bad HN hq h0;go_wp2;go_ret;exact⟨rfl,K3.below (Zac _ _),hb.below l3 (Zac _ _)⟩
 have hadd:=hq.out.symm.trans h0;have hE0:Hid (E=0):=h0;have hEq:addF n.nx n.txs t=0:=hadd
 have hfacts:txOk t=true∧Zcx n.txs t=false∧n.txs.length<40:=by
  unfold addF at hEq;rw[if_neg (by rw[Hp.out];simp)]at hEq;split at hEq
  ·rename_i h1;split at hEq
   ·cases hEq
   ·rename_i h2;split at hEq
    ·cases hEq
    ·exact⟨h1,by simpa using h2,by omega⟩
  ·cases hEq
 have Hfa:=Lib.hid hfacts;have HN2:Hid (subN rogue n t={ n with txs:=n.txs++[t] }):=by show _=_;rw[HN.out,if_pos h0]
 clear hadd hEq hfacts bad HN hq h0
 go_wp2_with fail
 refine(Zst n.nx _ n.txs t W2 rtx2 small Ht.out Hp.out Hfa.out.1 Hfa.out.2.1 Hfa.out.2.2).mono ?_;rintro e w3 ⟨d,rfl,hb3,od⟩;obtain⟨dA,dc,rfl⟩:=od.form;have N3:=N2.below l2 hb3;have K3:=K2.below hb3;have l3:=Zam l2 hb3;have rd3:RTexts (Zas o w3) _ (n.txs++[t]):=(od.from_ (bs:=16) (by have:=Hfa.out.2.2;simp;omega) (Nat.le_refl _)).mono (Zby l2);clear y2 y3 N2 K2 rtx2 od
 go_upto_region 4 with fail
 refine Zo fun W4 hk4 hsz4 hb4=>?_
 have N4:=N3.below l3 hb4;have K4:=K3.below hb4;have l4:=Zam l3 hb4;have rd4:=rd3.mono (Zae l3 hb4);rw[List.length_append,List.length_singleton]at rd4;have c0:=hk4.cell 0;have c1:=hk4.cell 1;simp at c0 c1;obtain⟨hmk4,⟨xtx,xba,xdi,xta,xda,xow,xmi,xvo,xtp,xou⟩,S4,R4⟩:=id N4;clear N3 K3 l3 rd3 hb3 hb4 hsz4 hk4 N4
 go_wp2_with (refine Sec.store S4 (i:=2) [.int .i64 n.nx,.slice dA (n.txs.length+1) dc] (show 2+2≤15 by decide) rfl rfl rfl rfl (by kernel_rfl) rfl rfl ?_)
 intro w5 S5 hg5 h5;have f5:=Zaq l4 hg5 hmk4
 have R5:=(R4.fr f5 (fun k e=>by injection e;omega)).setTx (x:=n.nx) (rd4.mono f5.view) (fun s hs=>by
  rcases List.mem_append.1 hs with hs|hs
  ·exact small s hs
  ·rw[List.mem_singleton.1 hs];exact Ht.out)
 have K5:=K4.store hmk4 hg5 h5 (show 2+2≤15 by decide);have S5:=S5.putPool (xs:=n.txs++[t]);have hres:NodeAt o w5 i 0 gf (1+i*15) (subN rogue n t):=by rw[HN2.out];exact⟨hmk4,_,S5,R5⟩
 clear S5 R5 S4 R4 HN2;go_wp2;go_ret;exact⟨Zaj hE0.out.symm,K5,hres⟩
theorem Zpm{a:At}(h:actE a=0):AOk a∧a.pick≤400000∧(hT a.kind=true→a.text.size≤4000)∧(1≤a.kind∧a.kind≤10):=by
 have h0:=Zr2 h;unfold actE actF at h;split at h
 ·cases h
 ·rename_i h1;have hk:1≤a.kind∧a.kind≤10:=Zbi.1 (by simpa using h1);split at h
  ·cases h
  ·rename_i h2;split at h
   ·cases h
   ·rename_i h3;split at h
    ·cases h
    ·rename_i h4;simp only[Bool.or_eq_true,Bool.and_eq_true,Bool.not_eq_true',bne_iff_ne,ne_eq,not_or,not_and,Bool.not_eq_false,Decidable.not_not,decide_eq_true_eq,beq_iff_eq]at h2 h3 h4;refine⟨h0,?_,?_,hk⟩
     ·by_cases hp:hP a.kind=true
      ·exact(Zbi.1 (h2.2 hp)).2
      ·have:=h4.1.2 (by simpa using hp);omega
     ·intro ht;have:=h3 ht;omega
theorem Zjb(hl:f.nodes.length=4){i:Int}(hi:0≤i∧i≤3):Za1 f i (Zan f i)=f:=by
 have hlt:i.toNat<f.nodes.length:=by omega
 have:f.nodes.set i.toNat (Zan f i)=f.nodes:=by
  unfold Zan;rw[List.getElem?_eq_getElem hlt];simp
 unfold Za1;rw[this]
theorem Zzs(f:Ft)(tw:Int)(m:Msg)(hl:f.nodes.length=4)(ht:0≤tw∧tw≤3):come f tw m=Za1 f tw (if (Zan f tw).up=false∨tw=f.rogue then Zan f tw else come1 f.signs f.rogue (Zan f tw) m):=by
 unfold come;split
 ·rw[Zjb hl ht]
 ·rfl
theorem Zzm(h:MI f)(k:Nat):MI ((f.away.take k).foldl (fun g m=>come g m.dst m) {f with away:=[] }) :=
 MI.flow _ (fun m hm=>h.wi.away m (List.mem_of_mem_take hm)) (h.awayed (fun m hm=>by cases hm) (by simp))
section
variable {o o':Own} {w w':World} {gf:Nat} {f:Ft}
theorem FtAt.newCodes(h:FtAt o w gf f){w2:World}(k:Fr (fun t=>t=(6,0)) o w o' w'){l:List Int}(r:Row o' (6,0) 1 RI 45 w' v l)(hs:Sec w2 gf 63 [v])(hg:w'.grownBy w2 (some gf))(ho:Only w' w2 gf 63 1):FtAt o' w2 gf {f with codes:=l }:=by
 obtain⟨va,a1,a2⟩:=h.away;have a1:=a1.fr k h.mark (by simp);have a2:=a2.fr RMsgZ.mono k (by simp);have s1:=h.sg.fr k (by simp);have s2:∀i:Nat,i<4→NodeAt o' w' i 0 gf (1+i*15) (Zan f i):=fun i hi=>(h.node i hi).fr k (fun q hq=>by injection hq;omega) (by simp)
 have hm:=s1.mark;have k2:=Zaq k.lim hg hm;obtain⟨_,h1,vs,h2,h3⟩:=s1;refine⟨k2.lim,h.len,⟨hm,h1.only ho (.inl (by simp)),vs,h2.only ho (.inl (by simp)),h3.mono RSign.mono k2.view⟩,fun j hj=>?_,⟨va,a1.only ho (.inl (by simp)),a2.fr RMsgZ.mono k2 (by simp)⟩,⟨v,hs,r.fr RI.mono k2 (by simp)⟩⟩;obtain⟨hm,v',S1,R1⟩:=s2 j hj;exact⟨hm,v',S1.only ho (.inl (by rw[Ziz];omega)),R1.fr k2 (fun q hq=>by injection hq;omega)⟩
end
theorem Zle(gf:Nat)(f:Ft)(tw:Int)(m:Msg)(vt vb vp vd cb cp cv:Value)(o:Own)(w:World)(hF:FtAt o w gf f)(hT:Tabs (Zas o w))(hM:MI f)(ht:0≤tw∧tw≤3)(hm:RMsg (Zas o w) m vt vb vp vd cb cp cv)(hs:∀s∈m.bat.txs,s.size≤140737488355328) :
 Calls Tryz.prog 86 #[.pointer (some ⟨gf,0,none⟩),.int .i64 tw,.agg (msgC m vt vb vp vd cb cp cv)] w fun e w'=>e=.returned (.tuple #[])∧∃o',(∃i:Nat,i<4∧NFr i 0 gf (1+i*15) o w o' w')∧FtAt o' w' gf (come f tw m):=by
 obtain⟨i,rfl⟩:∃i:Nat,tw=i:=⟨tw.toNat,by omega⟩;have hi:i<4:=by omega
 obtain⟨ms,j,p⟩:=Zqd hM hi;have hf:=NFit.of p (hM.mn i (by omega) (by omega));refine(Zx8 i gf (Zan f i) m f.rogue f.signs vt vb vp vd cb cp cv o w hF.lim hi hF.sg (hF.node i hi) hT hm hs hf.dag hf.voters hf.out hf.table (by rw[hf.dd];exact hf.bats) (by rw[hf.dd];exact Nat.le_refl _) hf.bats).mono ?_;rintro e w' ⟨rfl,o',K,N⟩;refine⟨rfl,o',⟨i,hi,K⟩,?_⟩;rw[Zzs f i m hF.len ht];exact hF.step hi K N
theorem decM_small(b:List UInt8):∀s∈(decM b).bat.txs,s.size≤140737488355328:=by
 unfold decM;split
 ·unfold msgR;exact Zi9 _ _ _ _
 ·intro s hs;cases hs
end Fl
end Go.Proofs.YtinibgklgehdpaaGreatDoor
