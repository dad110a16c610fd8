/- A part of what the last text stands on. -/
import Derived.Test.YtbcpbnfojfiekaaGreatDoorK38
import Derived.Test.YtbcpbnfojfiekaaGreatDoorK39
namespace Go.Proofs.YtbcpbnfojfiekaaGreatDoor
open Go.ChangeShapes Go.WideShapes Go.ChangeAt Go.RowKit Go.Proofs.Tryz Qa Qb Qc
set_option linter.all false
set_option maxHeartbeats 20000000
set_option maxRecDepth 100000
variable{v:Value}{i:Nat}{f:Fl.Ft}
namespace Fl
theorem Zr2(h:MI f)(hi:i<4):∃ms j,NI f.signs f.rogue i (Zav f i) ms j:=by
 obtain⟨ms,j,p,_⟩:=h.wi.node i (by omega) (by omega);exact⟨ms,j,p⟩
theorem act_any(gf:Nat)(f:Ft)(a:At)(o:Own)(w:World)(hF:FtAt o w gf f)(hT:Tabs (Zas o w))(E:MI f)(F:AOk a)(hp:a.pick≤400000)(Q:a.node≠f.rogue)(A:f.signs.length≤1000000000) :
 Calls prog 61 #[.pointer (some ⟨gf,0,none⟩),.agg #[.int .i64 a.kind,.int .i64 a.node,.int .i64 a.pick,.string a.text]] w fun e w'=>e=.returned (.tuple #[])∧∃o',Fr All o w o' w'∧FtAt o' w' gf (act f a):=by
 obtain⟨QR,t⟩:∃q,Hid (act f a=q):=⟨_,rfl⟩;rw[t.out];obtain⟨i,hi⟩:∃i:Nat,a.node=i:=⟨a.node.toNat,by have:=F.1.1;omega⟩;have g:i<4:=by have:=F.1.2;omega
 obtain⟨kp,v⟩:∃k:Nat,a.pick=k:=⟨a.pick.toNat,by have:=F.2;omega⟩;obtain⟨ms,jj,hN⟩:=Zr2 E g;have j:=Zb (NFit.of hN (E.mn i (by omega) (by omega)));have m:Hid ((Zav f i).me=(i:Int)):=hN.me;have r:=Zb hN.turn;have d:=Zb hN.tap.may;have z:=Zb E.away;have p:=Zb (Zyf hN (keep:=(kp:Int)) (by omega));have I:=Zb A;obtain⟨n,hn⟩:∃n,Hid (Zav f i=n):=⟨_,rfl⟩
 have y:Hid (QR=if a.kind=8 then Za4 f i {n with up:=true } else if n.up=false then f else if a.kind=2 then Za4 f i (work n)else if a.kind=3 then sync f i else if a.kind=7 then Za4 f i (crash n i kp)else f):=by
  show _=_;rw[←t.out];unfold act;simp only;rw[hi,v,hn.out]
 obtain⟨K,N⟩:∃K,Hid (a.kind=K):=⟨_,rfl⟩;rw[N.out]at y⊢;rw[hi,v];have L:(kp:Int)≤400000:=by omega
 have B:kp≤400000:=by omega
 have M:(i:Int)<4:=by omega
 have O:(0:Int)≤(i:Int):=by omega
 clear F hp Q E hN hi v A t;go_enter func61,ntmps61;go_upto_region 1 with fail;refine Zo fun W D H G=>?_
 have F1:=hF.below G;have T1:=hT.mono (Zaf hF.lim G);have A1:Fr All o w o W:=Fr.of_below hF.lim G;have c0:=D.cell 0;have c1:=D.cell 1;have c2:=D.cell 2;simp at c0 c1 c2;clear hF hT H;refine Zr [6] (.q 0 (.q 1 (.q 2 (.q 3 (.q 4 (.q 5 (.qc 6 .nil))))))) fun W2 c=>?_
 repeat((first|refine pq (h:=⟨_,fun w' J=>by(have z0:=Zaa J _ _ c0;have z1:=Zaa J _ _ c1;go_simp;exact rfl),?_⟩)|refine Zq ?_);simp only[sx])
 refine Zai ?_;have l1:=F1.lim;have F2:=F1.below c;have T2:=T1.mono (Zaf l1 c);have A2:=All.trans A1 (Fr.of_below (T:=All) l1 c);have l2:=F2.lim;have d0:=Zaa c _ _ c0;have d1:=Zaa c _ _ c1;have d2:=Zaa c _ _ c2;have N2:=F2.node i g;rw[hn.out]at N2 j m r d p;obtain⟨x,⟨xtx,xba,xdi,xta,xda,xow,xmi,xvo,xtp,xou⟩,S2,R2⟩:=id N2;have s1:=S2.nd1;clear F1 T1 A1 l1 c0 c1 c2 D G c
 by_cases k8:K=8
 ·have kb:(K==8)=true:=by simpa using k8
  have l:Hid (QR=Za4 f i {n with up:=true }):=by show _=_;rw[y.out,if_pos k8]
  clear k8 y;go_wp2_with (refine Sec.store S2 (i:=1) [.bool true] (show 1+1≤15 by decide) rfl rfl rfl rfl (by kernel_rfl) rfl rfl ?_);intro w3 S3 C P;have f3:=Zap l2 C x;have R3:=(R2.fr f3 (fun k e=>by injection e;omega)).setUp true;have K3:NFr i 0 gf (1+i*15) o W2 o w3:=(NFr.refl l2).store x C P (show 1+1≤15 by decide);have N3:NodeAt o w3 i 0 gf (1+i*15) {n with up:=true }:=⟨x,_,S3.putUp,R3⟩;have F3:=F2.step g K3 N3;rw[←l.out]at F3;have A3:=All.trans A2 K3.fr.all;clear S3 R3 N3 S2 R2 N2;go_wp2;go_end0;exact⟨rfl,o,A3,F3⟩
 have kb:(K==8)=false:=by simpa using k8
 obtain⟨UP,s⟩:∃u,Hid (n.up=u):=⟨_,rfl⟩;rw[s.out]at s1;cases UP
 ·have l:Hid (QR=f):=by show _=_;rw[y.out,if_neg k8,if_pos s.out]
  rw[←l.out]at F2;clear k8 y S2 R2 N2;go_wp2;go_end0;exact⟨rfl,o,A2,F2⟩
 have b:Hid (QR=if K=2 then Za4 f i (work n)else if K=3 then sync f i else if K=7 then Za4 f i (crash n i kp)else f):=by
  show _=_;rw[y.out,if_neg k8,if_neg (by rw[s.out];decide)]
 clear y k8 S2 R2
 by_cases k2:K=2
 ·have kb2:(K==2)=true:=by simpa using k2
  have l:Hid (QR=Za4 f i (work n)):=by show _=_;rw[b.out,if_pos k2]
  clear k2 b;go_wp2_with fail;refine(Zy2 i 0 gf (1+i*15) n o W2 l2 (by omega) N2 T2 j.out (by rw[m.out];omega) r.out).mono ?_;rintro e w3 ⟨rfl,o3,K3,N3⟩;have F3:=F2.step g K3 N3;rw[←l.out]at F3;have A3:=All.trans A2 K3.fr.all;go_wp2;go_end0;exact⟨rfl,o3,A3,F3⟩
 have kb2:(K==2)=false:=by simpa using k2
 by_cases k3:K=3
 ·have kb3:(K==3)=true:=by simpa using k3
  have l:Hid (QR=sync f i):=by show _=_;rw[b.out,if_neg k2,if_pos k3]
  clear k2 k3 b N2;go_wp2_with fail;refine(Zzl i gf f o W2 g F2 T2 (by rw[hn.out];exact d.out) (by rw[hn.out];exact j.out.out) z.out I.out).mono ?_;rintro e w3 ⟨rfl,o3,A3,F3⟩;rw[←l.out]at F3;go_wp2;go_end0;exact⟨rfl,o3,All.trans A2 A3,F3⟩
 have kb3:(K==3)=false:=by simpa using k3
 by_cases k7:K=7
 ·have kb7:(K==7)=true:=by simpa using k7
  have l:Hid (QR=Za4 f i (crash n i kp)):=by show _=_;rw[b.out,if_neg k2,if_neg k3,if_pos k7]
  clear k2 k3 k7 b N2;go_wp2_with fail;refine(Zyg i gf f kp o W2 g F2 T2 (by rw[hn.out];exact m.out) (by rw[hn.out];exact d.out) B (by rw[hn.out];exact p.out)).mono ?_;rintro e w3 ⟨rfl,o3,A3,F3⟩;rw[hn.out,←l.out]at F3;go_wp2;go_end0;exact⟨rfl,o3,All.trans A2 A3,F3⟩
 have kb7:(K==7)=false:=by simpa using k7
 have l:Hid (QR=f):=by show _=_;rw[b.out,if_neg k2,if_neg k3,if_neg k7]
 rw[←l.out]at F2;clear k2 k3 k7 b N2;go_wp2;go_end0;exact⟨rfl,o,A2,F2⟩
section
variable {o o':Own} {w w':World} {gf:Nat} {f:Ft}
theorem FtAt.newCodes(h:FtAt o w gf f){w2:World}(k:Fr (fun t=>t=(6,0)) o w o' w'){l:List Int}(r:Row o' (6,0) 1 RI 26 w' v l)(n:Sec w2 gf 63 [v])(g:w'.grownBy w2 (some gf))(b:Only w' w2 gf 63 1):FtAt o' w2 gf {f with codes:=l }:=by
 obtain⟨va,a1,a2⟩:=h.away;have a1:=a1.fr k h.mark (by simp);have a2:=a2.fr RMsgZ.mono k (by simp);have s1:=h.sg.fr k (by simp);have s2:∀i:Nat,i<4→NodeAt o' w' i 0 gf (1+i*15) (Zav f i):=fun i hi=>(h.node i hi).fr k (fun q c=>by injection c;omega) (by simp)
 have a:=s1.mark;have k2:=Zap k.lim g a;obtain⟨_,d,vs,p,m⟩:=s1;refine⟨k2.lim,h.len,⟨a,d.only b (.inl (by simp)),vs,p.only b (.inl (by simp)),m.mono RSign.mono k2.view⟩,fun j e=>?_,⟨va,a1.only b (.inl (by simp)),a2.fr RMsgZ.mono k2 (by simp)⟩,⟨v,n,r.fr RI.mono k2 (by simp)⟩⟩;obtain⟨a,v',S1,R1⟩:=s2 j e;exact⟨a,v',S1.only b (.inl (by rw[Zjl];omega)),R1.fr k2 (fun q c=>by injection c;omega)⟩
end
theorem Zl8(gf:Nat)(f:Ft)(tw:Int)(m:Msg)(vt vb vp vd cb cp cv:Value)(o:Own)(w:World)(hF:FtAt o w gf f)(hT:Tabs (Zas o w))(b:MI f)(ht:0≤tw∧tw≤3)(c:RMsg (Zas o w) m vt vb vp vd cb cp cv)(d:∀s∈m.bat.txs,s.size≤140737488355328) :
 Calls prog 59 #[.pointer (some ⟨gf,0,none⟩),.int .i64 tw,.agg (msgC m vt vb vp vd cb cp cv)] w fun e w'=>e=.returned (.tuple #[])∧∃o',(∃i:Nat,i<4∧NFr i 0 gf (1+i*15) o w o' w')∧FtAt o' w' gf (come f tw m):=by
 obtain⟨i,rfl⟩:∃i:Nat,tw=i:=⟨tw.toNat,by omega⟩;have hi:i<4:=by omega
 obtain⟨ms,j,p⟩:=Zr2 b hi;have a:=NFit.of p (b.mn i (by omega) (by omega));refine(come_any i gf (Zav f i) m f.rogue f.signs vt vb vp vd cb cp cv o w hF.lim hi hF.sg (hF.node i hi) hT c d a.dag a.voters a.out a.table (by rw[a.dd];exact a.bats) (by rw[a.dd];exact Za _) a.bats).mono ?_;rintro e w' ⟨rfl,o',K,N⟩;refine⟨rfl,o',⟨i,hi,K⟩,?_⟩;rw[come_is f i m hF.len ht];exact hF.step hi K N
theorem decM_small(b:List UInt8):∀s∈(decM b).bat.txs,s.size≤140737488355328:=by
 unfold decM;split
 ·unfold msgR;exact Zjv _ _ _ _
 ·intro s a;cases a
end Fl
end Go.Proofs.YtbcpbnfojfiekaaGreatDoor
