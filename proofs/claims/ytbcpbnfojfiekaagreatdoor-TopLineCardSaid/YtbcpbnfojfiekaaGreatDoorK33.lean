/- A part of what the last text stands on. -/
import Derived.Test.YtbcpbnfojfiekaaGreatDoorK27
import Derived.Test.YtbcpbnfojfiekaaGreatDoorK30
import Derived.Test.YtbcpbnfojfiekaaGreatDoorK32
namespace Go.Proofs.YtbcpbnfojfiekaaGreatDoor
open Go.ChangeShapes Go.WideShapes Go.ChangeAt Go.RowKit Go.Proofs.Tryz Qa Qb Qc
set_option linter.all false
set_option maxHeartbeats 20000000
set_option maxRecDepth 100000
variable{w w' W wr:World}{a:Act}{o:Oper}{ops:Array Oper}{rest:List Oper}{Q:Exit→Act→World→Prop}{v:Value}{cs:Array Value}{A:Option Addr}{t:TypeId}{i j g c:Nat}{m:Msg}{f:Fl.Ft}{n:Fl.Nd}{ms:List Msg}{signs:List Sign}
namespace Fl
theorem come_any(i gf:Nat)(n:Nd)(m:Msg)(rogue:Int)(signs:List Sign)(vt vb vp vd cb cp cv:Value)(o:Own)(w:World)(F:Lim o w)(hi:i<4)(S:SgAt o w gf rogue signs)(hN:NodeAt o w i 0 gf (1+i*15) n)(hT:Tabs (Zas o w))(P:RMsg (Zas o w) m vt vb vp vd cb cp cv)(T:∀s∈m.bat.txs,s.size≤140737488355328)(c:dagF hD cF n.dag=0)(J:n.voters.length≤4)(B:n.out.length≤400)(p:n.table.length≤400)(z:n.digs.length≤800)(k:n.digs.length≤n.bats.length)(G:n.bats.length≤800) :
 Calls prog 59 #[.pointer (some ⟨gf,0,none⟩),.int .i64 (i:Int),.agg (msgC m vt vb vp vd cb cp cv)] w fun e w'=>e=.returned (.tuple #[])∧∃o',NFr i 0 gf (1+i*15) o w o' w'∧NodeAt o' w' i 0 gf (1+i*15) (if n.up=false∨(i:Int)=rogue then n else come1 signs rogue n m):=by
 obtain⟨QR,r⟩:∃q,Hid ((if n.up=false∨(i:Int)=rogue then n else come1 signs rogue n m)=q):=⟨_,rfl⟩;rw[r.out];have U:=Zb (And.intro c (And.intro J (And.intro B (And.intro p (And.intro z (And.intro k G))))));have Y:=Zb T;clear c J B p z k G T;have E:=P;obtain⟨⟨tA,tc,rfl⟩,⟨bA,bc,rfl⟩,⟨pA,pc,rfl⟩,⟨dA,dc,rfl⟩,⟨cA,cc,rfl⟩,⟨qA,qc,rfl⟩,⟨vA,vc,rfl⟩⟩:=E.forms;clear E;unfold msgC;go_enter func59,ntmps59;go_upto_region 1 with fail;refine Zo fun W b M H=>?_
 have l1:=Zam F H;have v1:=Zaf F H;have N1:=hN.below F H;have G1:=S.below F H;have T1:=hT.mono v1;have m1:=P.mono v1;have F1:NFr i 0 gf (1+i*15) o w o W:=(NFr.refl F).below H;clear M hN S hT P;obtain⟨Z,⟨vtx,vba,vdi,vta,vda,vow,vmi,vvo,vtp,vou⟩,S1,R1⟩:=id N1;have s1:=S1.nd1;obtain⟨-,gr,vs,gs,rs⟩:=id G1;have g0:=gr.cell (j:=0) (show 0<1 by decide);have g61:=gs.cell (j:=0) (show 0<1 by decide);simp at g0 g61;have k2:=b.cell 2;simp at k2;have V:(i:Int)<4:=by omega
 have X:(0:Int)≤(i:Int):=by omega
 obtain⟨UP,v⟩:∃u,Hid (n.up=u):=⟨_,rfl⟩;rw[v.out]at s1;cases UP
 ·have Nr:NodeAt o W i 0 gf (1+i*15) QR:=by rw[←r.out,if_pos (.inl v.out)];exact N1
  clear N1 S1 R1;go_wp2
  (try simp only[Exit.inBlock,Exit.then])
  refine bodyPost_ret (results_none rfl _ _ _) rfl ?_;exact⟨rfl,o,F1,Nr⟩
 by_cases C:(i:Int)=rogue
 ·have R:((i:Int)==rogue)=true:=by simpa using C
  have Nr:NodeAt o W i 0 gf (1+i*15) QR:=by rw[←r.out,if_pos (.inr C)];exact N1
  clear N1 S1 R1 C;go_wp2
  (try simp only[Exit.inBlock,Exit.then])
  refine bodyPost_ret (results_none rfl _ _ _) rfl ?_;exact⟨rfl,o,F1,Nr⟩
 have R:((i:Int)==rogue)=false:=by simpa using C
 have A:Hid (QR=come1 signs rogue n m):=by
  show _=_;rw[←r.out,if_neg (fun e=>e.elim (fun h=>by rw[v.out]at h;cases h) C)]
 clear C S1 R1;obtain⟨c,J,B,p,z,k,G⟩:=U.out;have L:=Zb c;clear c;obtain⟨K,a⟩:∃K,Hid (m.kind=K):=⟨_,rfl⟩;rw[a.out]at k2 b
 by_cases c1:K=1
 ·have f:QR=(store n m.bat true).1:=by rw[A.out];unfold come1;rw[if_pos (a.out.trans c1)]
  have b1:(K==1)=true:=by simpa using c1
  have e3:=b.cell 3;have e4:=b.cell 4;have e5:=b.cell 5;simp at e3 e4 e5;clear c1;go_wp2_with fail;refine(Zk6 i 0 gf (1+i*15) n m.bat true _ o W l1 (by omega) N1 T1 m1.txs Y.out z G).mono ?_;rintro e w2 ⟨rfl,o2,F2,N2⟩;rw[←f]at N2;clear f;go_wp2;go_end0;exact⟨rfl,o2,F1.trans F2,N2⟩
 have b1:(K==1)=false:=by simpa using c1
 by_cases c2:K=2
 ·have f:QR=offer signs rogue n m.hdr:=by rw[A.out];unfold come1;rw[if_neg (by rw[a.out];exact c1),if_pos (a.out.trans c2)]
  have b2:(K==2)=true:=by simpa using c2
  have e6:=b.cell 6;have e7:=b.cell 7;have e8:=b.cell 8;have e9:=b.cell 9;simp at e6 e7 e8 e9;clear c1 c2;go_wp2_with fail;refine(Zxa i gf (1+i*15) n m.hdr _ _ rogue signs o W l1 (by omega) (by omega) (by omega) G1 N1 T1 m1.bats m1.pars p z B).mono ?_;rintro e w2 ⟨rfl,o2,F2,N2⟩;rw[←f]at N2;clear f;go_wp2;go_end0;exact⟨rfl,o2,F1.trans F2,N2⟩
 have b2:(K==2)=false:=by simpa using c2
 by_cases c3:K=3
 ·have f:QR=count signs rogue n m.src m.slt:=by rw[A.out];unfold come1;rw[if_neg (by rw[a.out];exact c1),if_neg (by rw[a.out];exact c2),if_pos (a.out.trans c3)]
  have b3:(K==3)=true:=by simpa using c3
  have e0:=b.cell 0;have e10:=b.cell 10;have e11:=b.cell 11;have e12:=b.cell 12;simp at e0 e10 e11 e12;clear c1 c2 c3;go_wp2_with fail;refine(count_any i gf (1+i*15) n m.src m.slt _ rogue signs o W l1 (by omega) (by omega) (by omega) G1 N1 T1 m1.dig J B).mono ?_;rintro e w2 ⟨rfl,o2,F2,N2⟩;rw[←f]at N2;clear f;go_wp2;go_end0;exact⟨rfl,o2,F1.trans F2,N2⟩
 have b3:(K==3)=false:=by simpa using c3
 by_cases c4:K=4
 ·have y:Hid (QR=if Zmz signs rogue m.crt=0 then(insert n m.crt true).1 else n):=by show _=_;rw[A.out];unfold come1;rw[if_neg (by rw[a.out];exact c1),if_neg (by rw[a.out];exact c2),if_neg (by rw[a.out];exact c3),if_pos (a.out.trans c4)]
  have b4:(K==4)=true:=by simpa using c4
  have e13:=b.cell 13;have e14:=b.cell 14;have e15:=b.cell 15;have e16:=b.cell 16;have e17:=b.cell 17;simp at e13 e14 e15 e16 e17;clear c1 c2 c3 c4;go_wp2_with fail;obtain⟨QP,I⟩:∃q,Hid (Zmz signs rogue m.crt=q):=⟨_,rfl⟩;rw[I.out]at y;obtain⟨sA,sc,rfl,Q⟩:=id rs;clear Q;refine Zr [] (.q 0 (.q 1 (.q 2 (.q 3 (.q 4 (.q 5 (.q 6 (.q 7 (.q 8 (.q 9 (.l 10 (.q 11 .nil)))))))))))) fun W3 t=>?_
  repeat((first|refine pq (h:=⟨_,fun w' D=>by(have x:=b.kept D;have y13:=x.cell 13;have y14:=x.cell 14;have y15:=x.cell 15;have y16:=x.cell 16;have y17:=x.cell 17;have z0:=Zaa D _ _ g0;have z61:=Zaa D _ _ g61;simp at y13 y14 y15 y16 y17;go_simp;exact rfl),?_⟩)|refine Zq ?_);simp only[sx])
  refine Zd fun K a=>?_
  try simp only[sy]
  go_simp;have q3:=Zaa t;refine(Zut _ signs rogue m.crt _ _ _ _ ((rs.mono RSign.mono (Zah _ _)).mono RSign.mono q3) ((m1.cbats.mono Ze (Zah _ _)).mono Ze q3) ((m1.cpars.mono Ze (Zah _ _)).mono Ze q3) ((m1.vots.mono (Zah _ _)).mono q3) ((T1.mono (Zah _ _)).mono q3)).mono ?_;rintro e w4 ⟨rfl,O⟩;rw[I.out];have d:=t.trans (O.mono t.size);have N4:=N1.below l1 d;have F4:=F1.below d;have l4:=Zam l1 d;have v4:=Zaf l1 d;have g:=b.kept d
  by_cases hp:QP=0
  ·have N:(QP==0)=true:=by simpa using hp
   have f:QR=(insert n m.crt true).1:=by rw[y.out,if_pos hp]
   clear hp;refine a.out _ _ (d) fun D=>?_
   clear a K
   try simp only[sx]
   repeat(refine Zq ?_;simp only[sx])
   refine Zai ?_;have e13:=g.cell 13;have e14:=g.cell 14;have e15:=g.cell 15;have e16:=g.cell 16;have e17:=g.cell 17;simp at e13 e14 e15 e16 e17;go_wp2_with fail;refine(Zjo i 0 gf (1+i*15) n m.crt true _ _ _ o w4 l4 (by omega) N4 (T1.mono v4) (m1.cbats.mono Ze v4) (m1.cpars.mono Ze v4) (m1.vots.mono v4)).mono ?_;rintro e w5 ⟨rfl,o2,F2,N2⟩;rw[←f]at N2;clear f;go_wp2;go_end0;exact⟨rfl,o2,F4.trans F2,N2⟩
  ·have N:(QP==0)=false:=by simpa using hp
   have Nr:NodeAt o w4 i 0 gf (1+i*15) QR:=by rw[y.out,if_neg hp];exact N4
   clear hp;refine a.out _ _ (d) fun D=>?_
   clear a K
   try simp only[sx]
   repeat(refine Zq ?_;simp only[sx])
   refine Zai ?_;go_wp2;go_end0;exact⟨rfl,o,F4,Nr⟩
 have b4:(K==4)=false:=by simpa using c4
 by_cases c5:K=5
 ·have f:QR=serve n m.src m.round:=by rw[A.out];unfold come1;rw[if_neg (by rw[a.out];exact c1),if_neg (by rw[a.out];exact c2),if_neg (by rw[a.out];exact c3),if_neg (by rw[a.out];exact c4),if_pos (a.out.trans c5)]
  have b5:(K==5)=true:=by simpa using c5
  have e0:=b.cell 0;have e18:=b.cell 18;simp at e0 e18;clear c1 c2 c3 c4 c5;go_wp2_with fail;refine(Zwp i 0 gf (1+i*15) n m.src m.round o W l1 (by omega) N1 L.out B z k G).mono ?_;rintro e w2 ⟨rfl,o2,F2,N2⟩;rw[←f]at N2;clear f;go_wp2;go_end0;exact⟨rfl,o2,F1.trans F2,N2⟩
 have b5:(K==5)=false:=by simpa using c5
 have Nr:NodeAt o W i 0 gf (1+i*15) QR:=by
  have:QR=n:=by rw[A.out];unfold come1;rw[if_neg (by rw[a.out];exact c1),if_neg (by rw[a.out];exact c2),if_neg (by rw[a.out];exact c3),if_neg (by rw[a.out];exact c4),if_neg (by rw[a.out];exact c5)]
  rw[this];exact N1
 clear N1 c1 c2 c3 c4 c5;go_wp2;go_end0;exact⟨rfl,o,F1,Nr⟩
theorem Zt9(i tb g off gb:Nat)(n:Nd)(d:Value)(x:List UInt8)(o:Own)(w:World)(hN:NodeAt o w i tb g off n)(k:w.cell? ⟨gb,0,none⟩=some (.pointer (some ⟨g,off,none⟩)))(hd:Zan w.cell? d x)(f:n.digs.length≤800) :
 Calls prog 201 (#[d]++#[.pointer (some ⟨gb,0,none⟩)]) w fun e w'=>e=.returned (.bool (decide (held n x<0)))∧Below w.heap.size w w':=by
 obtain⟨A,c,rfl,j⟩:=id hd;clear j;show Calls prog 201 #[.slice A x.length c,.pointer (some ⟨gb,0,none⟩)] w _;obtain⟨H,b⟩:∃H,Hid (held n x=H):=⟨_,rfl⟩;rw[b.out];go_enter func201,ntmps201;go_wp2_with fail;refine(Zg9 i tb g off n _ x o _ hN hd f).mono ?_;rintro e w1 ⟨rfl,a⟩;rw[b.out]
 by_cases h:H<0
 ·go_wp2;go_ret;exact⟨Zao (by simp[h]),a⟩
 ·go_wp2;go_ret;exact⟨Zao (by simp[h]),a⟩
theorem Zm6(i tb g off:Nat)(n:Nd)(round:Int)(o:Own)(w:World)(T:Lim o w)(hN:NodeAt o w i tb g off n)(h0:0≤round)(h1:round≤140737488355328)(R:n.digs.length≤800) :
 Calls prog 159 #[.pointer (some ⟨g,off,none⟩),.int .i64 round] w fun e w'=>e=.returned (.int .i64 (wanted n round))∧Below w.heap.size w w':=by
 obtain⟨QW,v⟩:∃q,Hid (wanted n round=q):=⟨_,rfl⟩;rw[v.out];obtain⟨Z0,B⟩:∃z,Hid (max 1 (round-1)=z):=⟨_,rfl⟩;have H8:=Zb R;clear R;have eg:=enters_of func201 (by kernel_rfl) rfl;go_enter func159,ntmps159;go_upto_region 1 with fail;refine Zo fun W Y I F=>?_
 have l1:=Zam T F;have N1:=hN.below T F;have g0:=Y.cell 0;simp at g0;clear I hN;obtain⟨h5,⟨vtx,vba,vdi,vta,vda,vow,vmi,vvo,vtp,vou⟩,S1,R1⟩:=id N1;have s7:=S1.nd7;simp only at s7;have rda:RCrts W.cell? vda n.dag:=R1.da.mono RCrt.mono (Zah _ _);obtain⟨daA,dac,m,_⟩:=id rda;have m:vda=.slice daA n.dag.length dac:=m;subst m;obtain⟨-,X,h4,D⟩:=RCrts.at rda;have J:=Zb D;have h3:max (1:Int) (round-1)=Z0:=B.out;clear D S1 R1 rda;go_wp2_with fail
 go_loopw [5,7,17] (fun z _ j wr=>∃(k:Nat) (Z:Int),k≤n.dag.length∧j=.int .i64 k∧z=.int .i64 Z∧Hid (Z=(n.dag.take k).foldl (Zn7 n) Z0)∧Below W.heap.size W wr) (fun _ _ j _=>n.dag.length-(intOf j).toNat)
 case atStart=>exact⟨0,Z0,Zf _,rfl,rfl,rfl,Zm _ _⟩
 case round =>
  obtain⟨k,Z,V,rfl,rfl,H,c⟩:=hrel;have O:=c.size
  by_cases s:k<n.dag.length
  ·have t:(k:Int)<n.dag.length:=by omega
   obtain⟨b0,o0,ub,up,uv,G,q0,q1,q2,q3,q4,rb,rp,rv⟩:=J.out k s;subst G;have q:=Zaa c;have c0:=q _ _ q0;have c1:=q _ _ q1;have c2:=q _ _ q2;have c3:=q _ _ q3;have c4:=q _ _ q4;have rb':=rb.mono Ze q
   have a:Hid ((n.dag.take (k+1)).foldl (Zn7 n) Z0=Zn7 n ((n.dag.take k).foldl (Zn7 n) Z0) n.dag[k]):=by
    show _=_;rw[Zn s,List.foldl_append];rfl
   obtain⟨bA,bc,rfl,P⟩:=id rb;obtain⟨pA,pc,rfl,Q⟩:=id rp;obtain⟨eA,ec,rfl,K⟩:=id rv;clear P Q K q0 q1 q2 q3 q4 rb rp rv;generalize n.dag[k]=x at *;go_upto_region 5 with fail;refine Zo fun W2 u N E=>?_
   have b:=c.trans (E.mono O);have N2:=N1.below l1 b;have l2:=Zam l1 b;have rb2:=rb'.mono Ze (Zaa E);have g2:=Zaa b _ _ g0;have x1:=u.cell 1;have x2:=u.cell 2;simp at x1 x2;have M:=b.size;obtain⟨QA,r⟩:∃q,Hid (x.hdr.batches.any (fun d=>decide (held n d<0))=q):=⟨_,rfl⟩;clear N c0 c1 c2 c3 c4 rb';go_wp2_with fail;refine(Zlw 201 #[.pointer (some ⟨w.heap.size,0,none⟩)] (fun d=>decide (held n d<0)) eg _ x.hdr.batches W2 rb2 (fun W3 d y S U=>Zt9 i tb g off w.heap.size n d y o W3 (N2.below l2 S) (Zaa S _ _ g2) U H8.out)).mono ?_;rintro e w3 ⟨rfl,A⟩;rw[r.out];have f:=b.trans (A.mono M);have p:=u.kept A;cases QA
   ·have l:Hid (Z=(n.dag.take (k+1)).foldl (Zn7 n) Z0):=by
     show _=_;rw[a.out,←H.out];unfold Zn7;rw[r.out];rfl
    clear a x1 x2 rb2 u p;go_wp2;go_roundw
    case rel=>exact⟨k+1,Z,by omega,by go_num,rfl,l,f⟩
    case measure=>simp[intOf]<;>omega
   ·obtain⟨Z2,C⟩:∃z,min Z x.hdr.round=z:=⟨_,rfl⟩
    have l:Hid (Z2=(n.dag.take (k+1)).foldl (Zn7 n) Z0):=by
     show _=_;rw[a.out,←H.out];unfold Zn7;rw[r.out];exact C.symm
    have y1:=p.cell 1;simp at y1;clear a x1 x2 rb2 u p;go_wp2;go_roundw
    case rel=>exact⟨k+1,Z2,by omega,by go_num,rfl,l,f⟩
    case measure=>simp[intOf]<;>omega
  ·have h:k=n.dag.length:=by omega
   have L:Hid (Z=QW):=by
    show _=_;rw[H.out,h,List.take_length,←B.out];exact v.out
   have t:¬(k:Int)<n.dag.length:=by omega
   clear h;go_wp2;go_ret;exact⟨Zak L.out,F.trans (c.mono (by have:=F.size;omega))⟩
structure Sz (n m:Nd):Prop where
 nx:m.nx=n.nx
 txs:m.txs=n.txs
 out:n.out.length≤400→m.out.length≤400
theorem Sz.refl(n:Nd):Sz n n:=⟨rfl,rfl,id⟩
theorem Sz.trans{a b c:Nd}(h:Sz a b)(k:Sz b c):Sz a c:=⟨k.nx.trans h.nx,k.txs.trans h.txs,fun x=>k.out (h.out x)⟩
theorem Zi9(n:Nd)(tw:Int)(m:Msg):Sz n (send n tw m):=by
 unfold send;split
 ·exact⟨rfl,rfl,fun _=>by simp;omega⟩
 ·exact Sz.refl n
theorem Zja{α:Type}(f:Nd→α→Nd)(b:∀n a,Sz n (f n a)):∀(l:List α) (n:Nd),Sz n (l.foldl f n)
 |[],n=>Sz.refl n
 |a::l,n=>(b n a).trans (Zja f b l (f n a))
theorem Zri(n:Nd)(m:Msg):Sz n (tell n m):=Zja _ (fun n a=>by unfold Zco;split;exact Zi9 _ _ _;exact Sz.refl _) _ _
theorem Zg3(n:Nd)(b:Bat)(w:Bool):Sz n (store n b w).1:=by
 unfold Fl.store put kept;split
 ·exact Sz.refl n
 ·split
  ·split<;>exact⟨rfl,rfl,id⟩
  ·exact⟨rfl,rfl,id⟩
theorem Zih(n:Nd)(c:Crt)(w:Bool):Sz n (insert n c w).1:=by
 unfold Fl.insert kept;split
 ·exact Sz.refl n
 ·split
  ·split<;>exact⟨rfl,rfl,id⟩
  ·exact⟨rfl,rfl,id⟩
theorem Zwf(n:Nd)(h:Hdr):Sz n (vote n h).1:=by
 unfold Fl.vote kept;split
 ·exact Sz.refl n
 ·split
  ·split<;>exact⟨rfl,rfl,id⟩
  ·exact⟨rfl,rfl,id⟩
theorem Zzh(signs:List Sign)(rogue:Int)(n:Nd)(h:Hdr):Sz n (offer signs rogue n h):=by
 unfold Fl.offer;split
 ·exact Sz.refl n
 ·split
  ·exact Sz.refl n
  ·split
   ·exact Sz.refl n
   ·split
    ·exact(Zwf n h).trans (Zi9 _ _ _)
    ·exact Zwf n h
theorem Zzi(signs:List Sign)(rogue:Int)(n:Nd)(src:Int)(s:Slot):Sz n (count signs rogue n src s):=by
 unfold Fl.count;split
 ·exact Sz.refl n
 ·split
  ·exact Sz.refl n
  ·split
   ·exact Sz.refl n
   ·have a:Sz n {n with voters:=n.voters++[src] }:=⟨rfl,rfl,id⟩;split
    ·exact a
    ·split
     ·exact(a.trans (Zih _ _ _)).trans (Zri _ _)
     ·exact a.trans (Zih _ _ _)
theorem Zs2(tw:Int)(n:Nd)(d:List UInt8):Sz n (sendB tw n d):=by
 unfold sendB;split
 ·split
  ·exact Zi9 _ _ _
  ·exact Sz.refl n
 ·exact Sz.refl n
theorem Zzg(n:Nd)(tw round:Int):Sz n (serve n tw round):=by
 unfold Fl.serve;split
 ·exact Sz.refl n
 ·exact Zja _ (fun n c=>by unfold Zhn;exact(Zja _ (Zs2 tw) _ _).trans (Zi9 _ _ _)) _ _
theorem sz_come(signs:List Sign)(rogue:Int)(n:Nd)(m:Msg):Sz n (come1 signs rogue n m):=by
 unfold Fl.come1;split
 ·exact Zg3 _ _ _
 ·split
  ·exact Zzh _ _ _ _
  ·split
   ·exact Zzi _ _ _ _ _
   ·split
    ·split
     ·exact Zih _ _ _
     ·exact Sz.refl n
    ·split
     ·exact Zzg _ _ _
     ·exact Sz.refl n
theorem Znc(n:Nd)(round:Int):Sz n (propose n round):=by
 unfold Fl.propose;split
 ·exact Sz.refl n
 ·have h:=Zri {kept n (offM (Zd5 n round))with table:=Zc6 n.table (Zd5 n round),own:=some (Zd5 n round),mine:=(Zcz n.table (Zd5 n round)).digest,voters:=[n.me] } (offM (Zd5 n round));exact⟨h.nx,h.txs,h.out⟩
theorem Zzj(n:Nd):Sz n (again n):=by
 unfold Fl.again;split
 ·exact Sz.refl n
 ·exact Zja _ (fun n tw=>by unfold Zej;split;exact Sz.refl n;exact(Zja _ (Zs2 tw) _ _).trans (Zi9 _ _ _)) _ _
theorem Zzf(n:Nd)(round:Int):Sz n (work2 n round):=by
 unfold Fl.work2;split
 ·exact Znc _ _
 ·split
  ·exact Znc _ _
  ·split
   ·exact Zzj _
   ·exact Sz.refl n
theorem Zze(n:Nd)(round:Int):Sz n (work3 n round):=by
 unfold Fl.work3;have h:=Zi9 {n with turn:=Zgj n.me n.turn } (Zgj n.me n.turn) (wntM (wanted n round));exact⟨h.nx,h.txs,h.out⟩
structure MN (n:Nd):Prop where
 out:n.out.length≤400
 pool:Zdt n.nx n.txs=0
theorem MN.sz{m:Nd}(h:MN n)(s:Sz n m):MN m:=⟨s.out h.out,by rw[s.nx,s.txs];exact h.pool⟩
theorem Zdx{nx:Int}{l:List ByteArray}:Zdt nx l=0↔(1≤nx∧nx≤1048577)∧l.length≤40∧∀i (hi:i<l.length),txOk l[i]=true∧Zcy (l.take i) l[i]=false:=by
 unfold Zdt
 have c:∀i (hi:i<l.length),Zsu l i=false↔txOk l[i]=true∧Zcy (l.take i) l[i]=false:=fun i hi=>by
  unfold Zsu;rw[Zp hi];simp
 constructor
 ·intro h;split at h
  ·cases h
  ·rename_i a;split at h
   ·cases h
   ·rename_i b;simp only[Bool.or_eq_true,Bool.not_eq_true',decide_eq_true_eq,not_or,Bool.not_eq_false]at a;refine⟨Zbj.1 a.1,by omega,fun i hi=>(c i hi).1 ?_⟩;simp only[List.any_eq_true,List.mem_range,not_exists,not_and,Bool.not_eq_true]at b;exact b i hi
 ·rintro⟨a,b,d⟩;rw[if_neg,if_neg]
  ·simp only[List.any_eq_true,List.mem_range,not_exists,not_and,Bool.not_eq_true];exact fun i hi=>(c i hi).2 (d i hi)
  ·simp only[Bool.or_eq_true,Bool.not_eq_true',decide_eq_true_eq,not_or,Bool.not_eq_false];exact⟨Zbj.2 a,by omega⟩
theorem Zsi{l m:List ByteArray}(h:∀x∈l,x∈m){s:ByteArray}(k:Zcy m s=false):Zcy l s=false:=by
 unfold Zcy at k⊢;rw[List.any_eq_false]at k⊢;exact fun x a=>k x (h x a)
theorem Zw0{nx nx':Int}{l:List ByteArray}(h:Zdt nx l=0)(hn:1≤nx'∧nx'≤1048577)(k:Nat):Zdt nx' (l.drop k)=0:=by
 obtain⟨_,c,b⟩:=Zdx.1 h;refine Zdx.2 ⟨hn,by simp;omega,fun i hi=>?_⟩;rw[List.length_drop]at hi;rw[List.getElem_drop];obtain⟨q1,q2⟩:=b (k+i) (by omega);refine⟨q1,Zsi (fun x a=>?_) q2⟩;rw[List.take_drop]at a;exact List.mem_of_mem_drop a
theorem Zzz{nx:Int}{l:List ByteArray}{s:ByteArray}(h:addF nx l s=0):Zdt nx (l++[s])=0:=by
 unfold addF at h;split at h
 ·contradiction
 ·rename_i b;have b:Zdt nx l=0:=by simpa using b
  obtain⟨e,g,f⟩:=Zdx.1 b;split at h
  ·rename_i ht;split at h
   ·cases h
   ·rename_i d;split at h
    ·cases h
    ·rename_i c;refine Zdx.2 ⟨e,by simp;omega,fun i hi=>?_⟩
     by_cases a:i<l.length
     ·rw[List.getElem_append_left a,List.take_append_of_le_length (by omega)];exact f i a
     ·have:i=l.length:=by simp at hi;omega
      subst this;rw[List.getElem_append_right (Za _),List.take_append_of_le_length (Za _),List.take_length];simp[ht];simpa using d
  ·cases h
theorem Zum{nx:Int}{l:List ByteArray}{au:Int}(h:Zkc nx l au=0):Zdt nx l=0∧inB au 0 3=true∧0<l.length∧nx≤1048576:=by
 unfold Zkc at h;split at h
 ·contradiction
 ·rename_i a;split at h
  ·rename_i b;split at h
   ·cases h
   ·split at h
    ·cases h
    ·exact⟨by simpa using a,b,by omega,by omega⟩
  ·cases h
theorem MN.work1{n:Nd}(h:MN n):MN (work1 n):=by
 unfold Fl.work1;split
 ·rename_i b;have d:=Zum b.1;have a:=(Zg3 n (Zii n) true)
  have:MN {(store n (Zii n) true).1 with nx:=Zho n.nx n.txs n.me,txs:=Zdm n.nx n.txs n.me }:=by
   refine⟨a.out h.out,?_⟩;show Zdt (Zho n.nx n.txs n.me) (Zdm n.nx n.txs n.me)=0;unfold Zho Zdm;rw[b.1];simp only[ne_eq,not_true_eq_false,if_false];obtain⟨c,_⟩:=Zdx.1 h.pool;exact Zw0 h.pool (by omega) 4
  exact this.sz (Zri _ _)
 ·split
  ·exact h.sz (Zg3 _ _ _)
  ·exact h
theorem MN.work{n:Nd}(h:MN n):MN (work n):=by
 unfold Fl.work;exact(h.work1.sz (Zzf _ _)).sz (Zze _ _)
theorem mn_fresh(k:Int):MN (fresh k):=⟨by simp[Fl.fresh],by show Zdt 1 []=0;decide⟩
theorem nx_recS(h:1≤n.nx∧n.nx≤1048577)(d:m.kind=1→m.bat.number≤1048576):(1≤(recS n m).nx∧(recS n m).nx≤1048577)∧(recS n m).txs=n.txs∧(recS n m).out=n.out:=by
 have b:=Zg3 n m.bat false;have a:=Zg4 n m.bat;have hi:=Zih n m.crt false;have c:=Zgf n m.crt;unfold recS;split
 ·rename_i e;split
  ·refine⟨?_,b.txs,a.2.2.1⟩;show 1≤max _ _∧max _ _≤(1048577:Int);rw[b.nx];have:=d e;omega
  ·exact⟨by rw[b.nx];exact h,b.txs,a.2.2.1⟩
 ·split
  ·exact⟨h,rfl,rfl⟩
  ·split
   ·exact⟨h,rfl,rfl⟩
   ·split
    ·exact⟨by rw[hi.nx];exact h,hi.txs,c.2.2.1⟩
    ·exact⟨h,rfl,rfl⟩
theorem Zru:∀(ms:List Msg) {n:Nd},(1≤n.nx∧n.nx≤1048577)→(∀m∈ms,m.kind=1→m.bat.number≤1048576)→(1≤(ms.foldl recS n).nx∧(ms.foldl recS n).nx≤1048577)∧(ms.foldl recS n).txs=n.txs∧(ms.foldl recS n).out=n.out
 |[],n,h,_=>⟨h,rfl,rfl⟩
 |m::ms,n,h,a=>by
  obtain⟨q1,q2,q3⟩:=nx_recS h (a m (by simp))
  obtain⟨r1,r2,r3⟩:=Zru ms q1 (fun x b=>a x (by simp[b]))
  exact⟨r1,r2.trans q2,r3.trans q3⟩
theorem Znn(h:recF m=0):m.kind=1→m.bat.number≤1048576:=fun b=>by
 have a:=(msgF_zero (Zfw h).1).2.2.2.1
 unfold Zea at a
 rw[if_pos b]at a
 exact(batchF_zero a).2.1.2
theorem Ztv{rogue k:Int}(h:NI signs rogue k n ms j){keep:Int}(f:0≤keep) :
 ∃i,i≤ms.length∧rcvM (crL n.tl n.ty keep) (crA n.tl n.ty keep)=ms.take i∧crash n k keep=(ms.take i).foldl recS {fresh k with up:=false,tl:=Za2 (ms.take i),ty:=((Za2 (ms.take i)).length:Nat) }:=by
 have e:=h.tap.may
 obtain⟨N,hN,d,g⟩:∃N:Nat,Zdw n.ty keep n.tl.length=N∧N≤(Za2 ms).length∧(Za2 (ms.take j)).length≤N:=by
  have:=Zfc ms j;refine⟨_,rfl,?_,?_⟩
  ·unfold Zdw;rw[h.tap.ty,h.tap.tl];split<;>omega
  ·unfold Zdw;rw[h.tap.ty,h.tap.tl];split<;>omega
 obtain⟨i,i1,i2,i3,i4⟩:=Zwz h.tap.good d;have el:crL n.tl n.ty keep=(Za2 ms).take N:=by unfold crL;rw[if_pos ⟨e,f⟩,hN,h.tap.tl]
 have ea:crA n.tl n.ty keep=N:=by unfold crA;rw[if_pos ⟨e,f⟩,hN]
 have c:((Za2 ms).take N).length=N:=by simp;omega
 have a:=h.tap.short;rw[h.tap.tl]at a;have b:Zbc ((Za2 ms).take N) N=true:=by unfold Zbc;rw[c];simp;omega
 have e1:rcvM ((Za2 ms).take N) N=ms.take i:=by unfold rcvM;rw[b,i2];rfl
 have e2:rcvD ((Za2 ms).take N) N=Za2 (ms.take i):=by
  unfold rcvD;rw[b,i2];simp only[if_true];rw[List.take_take,Nat.min_eq_left i3];have:Za2 ms=Za2 (ms.take i)++Za2 (ms.drop i):=by rw[←Zd4,List.take_append_drop]
  rw[this,List.take_left]
 have e3:rcvY ((Za2 ms).take N) N=(Za2 (ms.take i)).length:=by
  unfold rcvY;rw[b,i2];simp only[if_true]
  split<;>omega
 refine⟨i,i1,by rw[el,ea,e1],?_⟩;unfold Fl.crash;simp only;rw[el,ea,e1,e2,e3]
theorem MN.crash{signs:List Sign}{rogue k:Int}{n:Nd}{ms:List Msg}{j:Nat}(h:NI signs rogue k n ms j){keep:Int}(b:0≤keep):MN (crash n k keep):=by
 obtain⟨i,hi,_,e⟩:=Ztv h b;rw[e];obtain⟨q1,q2,q3⟩:=Zru (ms.take i) (n:={ fresh k with up:=false,tl:=Za2 (ms.take i),ty:=((Za2 (ms.take i)).length:Nat) }) (by simp[Fl.fresh]) (fun m a=>Znn (h.tap.good m (List.mem_of_mem_take a)));constructor
 ·rw[q3];simp[Fl.fresh]
 ·rw[q2];exact Zdx.2 ⟨q1,by simp[Fl.fresh],fun i hi=>by simp[Fl.fresh]at hi⟩
structure MI (f:Ft):Prop where
 wi:WI f
 mn:∀i:Int,0≤i→i≤3→MN (Zav f i)
 away:f.away.length≤400
theorem MI.set(h:MI f){i:Int}(hi:0≤i∧i≤3)(c:WI (Za4 f i n))(hn:MN n):MI (Za4 f i n):=by
 refine⟨c,fun k a b=>?_,h.away⟩;rw[Zes h.wi.len hi ⟨a,b⟩];split
 ·exact hn
 ·exact h.mn k a b
theorem MI.come{f:Ft}(h:MI f){tw:Int}(ht:0≤tw∧tw≤3){m:Msg}(b:0≤m.src∧m.src≤3):MI (come f tw m):=by
 have a:=h.wi.come ht b;unfold Fl.come at a⊢;split
 ·exact h
 ·rename_i c;rw[if_neg c]at a;exact h.set ht a ((h.mn tw ht.1 ht.2).sz (sz_come _ _ _ _))
theorem MI.flow:∀(l:List Msg) {f:Ft},(∀m∈l,Zhv m)→MI f→MI (l.foldl (fun g m=>Fl.come g m.dst m) f)
 |[],f,_,h=>h
 |m::l,f,a,h=>MI.flow l (fun x b=>a x (by simp[b])) (h.come (a m (by simp)).2 (a m (by simp)).1)
theorem Zpx(me:Int):∀(out:List Msg) (p:List Sign×List Msg),p.2.length≤400→(out.foldl (Zc8 me) p).2.length≤400
 |[],p,h=>h
 |m::out,p,h=>by
  rw[List.foldl_cons]
  refine Zpx me out _ ?_
  unfold Zc8
  simp only
  split
  ·simp;omega
  ·exact h
theorem MN.up{n:Nd}(h:MN n)(b:Bool):MN {n with up:=b }:=⟨h.out,h.pool⟩
theorem MI.act{f:Ft}(h:MI f){a:At}(d:AOk a)(l:a.node≠f.rogue):MI (act f a):=by
 have b:=h.wi.act d l;have hn:=h.mn a.node d.1.1 d.1.2;unfold Fl.act at b⊢;simp only at b⊢;split
 ·rename_i c;rw[if_pos c]at b;exact h.set d.1 b (hn.up true)
 ·rename_i c;rw[if_neg c]at b;split
  ·exact h
  ·rename_i c;rw[if_neg c]at b;split
   ·rename_i c;rw[if_pos c]at b;exact h.set d.1 b hn.work
   ·rename_i c;rw[if_neg c]at b;split
    ·rename_i c;rw[if_pos c]at b;refine⟨b,fun k g i=>?_,?_⟩
     ·have e:Zav (sync f a.node) k=Zav (Za4 f a.node (syncN (Zav f a.node))) k:=rfl;rw[e,Zes h.wi.len d.1 ⟨g,i⟩];split
      ·exact⟨by simp[syncN],hn.pool⟩
      ·exact h.mn k g i
     ·exact Zpx _ _ _ h.away
    ·rename_i c;rw[if_neg c]at b;split
     ·rename_i c;rw[if_pos c]at b;obtain⟨ms,j,p,_⟩:=h.wi.node a.node d.1.1 d.1.2;exact h.set d.1 b (MN.crash p d.2)
     ·exact h
theorem MI.awayed(h:MI f){l:List Msg}(b:∀m∈l,Zhv m)(a:l.length≤400):MI {f with away:=l }:=⟨h.wi.awayed b,h.mn,a⟩
theorem MI.coded(h:MI f)(l:List Int):MI {f with codes:=l }:=⟨h.wi.coded l,h.mn,h.away⟩
theorem MI.submit{f:Ft}(h:MI f){a:At}(d:AOk a):MI (submit f a):=by
 have b:=h.wi.submit d;unfold Fl.submit at b⊢;simp only at b⊢;split
 ·rename_i c;rw[if_pos c]at b;refine h.set d.1 b ⟨(h.mn a.node d.1.1 d.1.2).out,?_⟩;unfold Zk4 at c;simp only at c;split at c
  ·cases c
  ·exact Zzz c
 ·exact h
theorem Zqy{l:List Msg}:(l.eraseIdx i).length≤l.length:=by rw[List.length_eraseIdx];split<;>omega
theorem MI.doA{f:Ft}(h:MI f){a:At}(i:AOk a):MI (doA f a):=by
 have g:=h.wi.doA i;unfold Fl.doA at g⊢;split
 ·exact(h.submit i).coded _
 ·rename_i c;rw[if_neg c]at g;split
  ·rename_i c;rw[if_pos c]at g;split
   ·exact h
   ·rename_i m e;have b:=List.mem_of_getElem? e;have l:∀x∈f.away.eraseIdx (pick f a.pick),Zhv x:=fun x d=>h.wi.away x (List.mem_of_mem_eraseIdx d)
    have j:=h.awayed l (Zg Zqy h.away);split
    ·exact j.come (h.wi.away m b).2 (h.wi.away m b).1
    ·exact j
  ·rename_i c;rw[if_neg c]at g;split
   ·split
    ·exact h
    ·rename_i m e;have b:=List.mem_of_getElem? e;split
     ·exact h.awayed (fun x d=>by
       rcases List.mem_append.1 d with d|d
       ·exact h.wi.away x d
       ·simp at d;subst d;exact h.wi.away _ b) (by simp;omega)
     ·exact h
   ·rename_i c;rw[if_neg c]at g;split
    ·exact MI.flow _ h.wi.away (h.awayed (fun m e=>by cases e) (by simp))
    ·split
     ·split
      ·rename_i c2;have:=(msgF_zero (Ztt c2.1)).1;exact h.come i.1 this
      ·exact h
     ·split
      ·rename_i k;exact h.act i k
      ·exact h
theorem MI.start{rogue:Int}(a:inB rogue (-1) 3=true):MI (start rogue):=by
 refine⟨WI.start a,fun i b c=>?_,by simp[Fl.start]⟩;have:i=0∨i=1∨i=2∨i=3:=by omega
 rcases this with e|e|e|e<;>rw[e]<;>exact mn_fresh _
theorem MI.fold:∀(l:List At) {f:Ft},(∀a∈l,AOk a)→MI f→MI (l.foldl Fl.doA f)
 |[],f,_,h=>h
 |a::l,f,b,h=>MI.fold l (fun x c=>b x (by simp[c])) (h.doA (b a (by simp)))
theorem Zof(f:Ft)(a:At):(doA f a).codes.length≤f.codes.length+1:=by
 unfold Fl.doA;split
 ·simp
 ·split
  ·split
   ·omega
   ·split
    ·rw[(Zdz _ _ _).2.2.2];simp
    ·simp
  ·split
   ·split
    ·omega
    ·split<;>simp
   ·split
    ·rw[(Zha _ _).2.2.2];simp
    ·split
     ·split
      ·rw[(Zdz _ _ _).2.2.2];simp
      ·omega
     ·split
      ·rw[show(act f a).codes=f.codes from by
        unfold Fl.act;simp only
        repeat(first|split|rfl)]
       omega
      ·omega
theorem Zny:∀(l:List At) (f:Ft),(l.foldl Fl.doA f).codes.length≤f.codes.length+l.length
 |[],f=>by simp
 |a::l,f=>by
  have b:=Zof f a
  have c:=Zny l (Fl.doA f a)
  simp only[List.foldl_cons,Zu]
  omega
structure NFit (n:Nd):Prop where
 out:n.out.length≤400
 table:n.table.length≤400
 dd:n.digs.length=n.bats.length
 bats:n.bats.length≤800
 voters:n.voters.length≤4
 dag:dagF hD cF n.dag=0
structure KeepD (n m:Nd):Prop where
 digs:m.digs=n.digs
 bats:m.bats=n.bats
 out:n.out.length≤400→m.out.length≤400
theorem KeepD.refl(n:Nd):KeepD n n:=⟨rfl,rfl,id⟩
theorem KeepD.trans{a b c:Nd}(h:KeepD a b)(k:KeepD b c):KeepD a c:=⟨k.digs.trans h.digs,k.bats.trans h.bats,fun x=>k.out (h.out x)⟩
theorem Zsb(n:Nd)(tw:Int)(m:Msg):KeepD n (send n tw m):=by
 unfold send;split
 ·exact⟨rfl,rfl,fun _=>by simp;omega⟩
 ·exact KeepD.refl n
theorem Zow{α:Type}(f:Nd→α→Nd)(b:∀n a,KeepD n (f n a)):∀(l:List α) (n:Nd),KeepD n (l.foldl f n)
 |[],n=>KeepD.refl n
 |a::l,n=>(b n a).trans (Zow f b l (f n a))
theorem Zxs(n:Nd)(m:Msg):KeepD n (tell n m):=Zow _ (fun n a=>by unfold Zco;split;exact Zsb _ _ _;exact KeepD.refl _) _ _
theorem kd_sendB(tw:Int)(n:Nd)(d:List UInt8):KeepD n (sendB tw n d):=by
 unfold sendB;split
 ·split
  ·exact Zsb _ _ _
  ·exact KeepD.refl n
 ·exact KeepD.refl n
theorem Znr(n:Nd)(round:Int):KeepD n (propose n round):=by
 unfold Fl.propose;split
 ·exact KeepD.refl n
 ·have h:=Zxs {kept n (offM (Zd5 n round))with table:=Zc6 n.table (Zd5 n round),own:=some (Zd5 n round),mine:=(Zcz n.table (Zd5 n round)).digest,voters:=[n.me] } (offM (Zd5 n round));exact⟨h.digs,h.bats,h.out⟩
theorem kd_again(n:Nd):KeepD n (again n):=by
 unfold Fl.again;split
 ·exact KeepD.refl n
 ·exact Zow _ (fun n tw=>by unfold Zej;split;exact KeepD.refl n;exact(Zow _ (kd_sendB tw) _ _).trans (Zsb _ _ _)) _ _
theorem kd_work2(n:Nd)(round:Int):KeepD n (work2 n round):=by
 unfold Fl.work2;split
 ·exact Znr _ _
 ·split
  ·exact Znr _ _
  ·split
   ·exact kd_again _
   ·exact KeepD.refl n
theorem Zk2(n:Nd)(m:Msg):(tell n m).table=n.table∧(tell n m).dag=n.dag∧(tell n m).own=n.own∧(tell n m).voters=n.voters∧(tell n m).me=n.me:=by
 have:∀(l:List Int) (n:Nd),(l.foldl (Zco m) n).voters=n.voters:=by
  intro l
  induction l with
  |nil=>intro n;rfl
  |cons a l ih =>
   intro n;rw[List.foldl_cons,ih];unfold Zco send
   split<;>(try split)<;>rfl
 obtain⟨_,d,e,b,c⟩:=Zi8 m all4 n;exact⟨b,d,e,this _ _,c⟩
theorem NFit.store{n:Nd}(h:NFit n)(b:Bat)(w:Bool):NFit (store n b w).1:=by
 unfold Fl.store put kept;split
 ·exact h
 ·rename_i a;have c:n.bats.length+1≤800:=by have:=h.bats;omega
  split
  ·split
   ·exact⟨h.out,h.table,by simp[h.dd],by simp;omega,h.voters,h.dag⟩
   ·exact h
  ·exact⟨h.out,h.table,by simp[h.dd],by simp;omega,h.voters,h.dag⟩
theorem NFit.tell{n:Nd}(h:NFit n)(m:Msg):NFit (tell n m):=by
 have k:=Zxs n m;obtain⟨a,b,_,c,_⟩:=Zk2 n m;exact⟨k.out h.out,by rw[a];exact h.table,by rw[k.digs,k.bats];exact h.dd,by rw[k.bats];exact h.bats,by rw[c];exact h.voters,by rw[b];exact h.dag⟩
theorem NFit.work1{n:Nd}(h:NFit n):NFit (work1 n):=by
 unfold Fl.work1;have a:=h.store (Zii n) true;split
 ·refine NFit.tell ?_ _;exact⟨a.out,a.table,a.dd,a.bats,a.voters,a.dag⟩
 ·split
  ·exact a
  ·exact h
theorem Zuq(l:List Crt):0≤rndV l∧rndV l≤402:=by
 unfold rndV;split
 ·rename_i h;have a:=(dagF_zero.1 h).1
  have:∀(n:Nat) (r:Int),r≤Zd0 l n r∧Zd0 l n r≤r+n:=by
   intro n
   induction n with
   |zero=>intro r;exact⟨Int.le_refl _,by simp[Zd0]⟩
   |succ n ih =>
    intro r;rw[Zd0];split
    ·have:=ih (r+1);omega
    ·omega
  have:=this (l.length+1) 1;unfold Zu1;omega
 ·omega
theorem Zo2:∀(n:Nat) {l:List Int},l.Nodup→(∀v∈l,0≤v∧v<n)→l.length≤n
 |0,l,_,h=>by
  cases l with
  |nil=>simp
  |cons a l=>have:=h a (by simp);omega
 |n+1,l,hn,h=>by
  by_cases c:(n:Int)∈l
  ·have d:=Zo2 n (l:=l.erase (n:Int)) (hn.erase _) (fun v b=>by
    have g:=h v (List.mem_of_mem_erase b)
    have f:v≠n:=fun e=>by rw[e]at b;exact(hn.not_mem_erase) b
    omega)
   rw[List.length_erase_of_mem c]at d
   omega
  ·have d:=Zo2 n hn (fun v b=>by
    have g:=h v b
    have f:v≠n:=fun e=>c (e▸b)
    omega)
   omega
theorem NFit.of{rogue k:Int}(h:NI signs rogue k n ms j)(m:MN n):NFit n:=by
 have a:=h.co;refine⟨m.out,?_,?_,?_,?_,?_⟩
 ·rw[h.table];exact(Zc7.1 a.table).1
 ·rw[h.digs,h.bats,a.digs];simp
 ·rw[h.bats];exact a.few
 ·exact Zo2 4 h.once.1 (fun v b=>by have:=h.once.2 v b;omega)
 ·rw[h.dag];exact a.dag
structure CrFit (n:Nd):Prop where
 table:n.table.length≤400
 dd:n.digs.length=n.bats.length
 bats:n.bats.length≤800
 nx:1≤n.nx∧n.nx≤1048577
def cr0(me:Int)(tl:List UInt8)(ty:Int):Nd:={ fresh me with up:=false,tl:=tl,ty:=ty }
theorem Zvi(n:Nd)(me keep:Int):crash n me keep=(rcvM (crL n.tl n.ty keep) (crA n.tl n.ty keep)).foldl recS (cr0 me (rcvD (crL n.tl n.ty keep) (crA n.tl n.ty keep)) (rcvY (crL n.tl n.ty keep) (crA n.tl n.ty keep))):=rfl
theorem Zyf{rogue k:Int}(h:NI signs rogue k n ms j){keep:Int}(p:0≤keep)(tl:List UInt8)(ty:Int) :
 (∀q,CrFit (((rcvM (crL n.tl n.ty keep) (crA n.tl n.ty keep)).take q).foldl recS (cr0 k tl ty)))∧(∀m∈rcvM (crL n.tl n.ty keep) (crA n.tl n.ty keep),m.kind=1→(1≤m.bat.number∧m.bat.number≤1048576)∧∀s∈m.bat.txs,s.size≤20):=by
 obtain⟨i,hi,e,_⟩:=Ztv h p;rw[e];refine⟨fun q=>?_,fun m b l=>?_⟩
 ·have f:∀m∈(ms.take i).take q,recF m=0:=fun m b=>h.tap.good m (List.mem_of_mem_take (List.mem_of_mem_take b))
  obtain⟨q1,_,_⟩:=Zru ((ms.take i).take q) (n:=cr0 k tl ty) (by simp[cr0,Fl.fresh]) (fun m b=>Znn (f m b));have a:=Ziv ((ms.take i).take q) (cr0 k tl ty);have g:core (cr0 k tl ty)=co0:=rfl;rw[g]at a;have a:core (((ms.take i).take q).foldl recS (cr0 k tl ty))=coOf ((ms.take i).take q):=a;have d:=Zyi ((h.recs.take i).take q);have e1:=congrArg Co.table a;have e2:=congrArg Co.bats a;have e3:=congrArg Co.digs a;simp only[core]at e1 e2 e3;refine⟨?_,?_,?_,q1⟩
  ·rw[e1];exact(Zc7.1 d.table).1
  ·rw[e2,e3,d.digs];simp
  ·rw[e2];exact d.few
 ·have f:=h.tap.good m (List.mem_of_mem_take b);have c:=(msgF_zero (Zfw f).1).2.2.2.1;unfold Zea at c;rw[if_pos l]at c;have o:=batchF_zero c;exact⟨o.2.1,fun s r=>(o.2.2.2.2 s r).2⟩
theorem Zvh{keep:Int}(a:Zbc n.tl n.ty=true)(b:0≤keep):crL n.tl n.ty keep=n.tl.take (Zdw n.ty keep n.tl.length)∧crA n.tl n.ty keep=(Zdw n.ty keep n.tl.length:Nat)∧0≤n.ty:=by
 refine⟨by unfold crL;rw[if_pos ⟨a,b⟩],by unfold crA;rw[if_pos ⟨a,b⟩],?_⟩;unfold Zbc at a;simp at a;exact a.1
theorem Zq7{a:At}(h:actE a=0):AOk a∧a.pick≤400000∧(hT a.kind=true→a.text.size≤4000)∧(1≤a.kind∧a.kind≤10):=by
 have e:=Zy1 h;unfold actE actF at h;split at h
 ·cases h
 ·rename_i g;have f:1≤a.kind∧a.kind≤10:=Zbj.1 (by simpa using g);split at h
  ·cases h
  ·rename_i d;split at h
   ·cases h
   ·rename_i c;split at h
    ·cases h
    ·rename_i b;simp only[Bool.or_eq_true,Bool.and_eq_true,Bool.not_eq_true',bne_iff_ne,ne_eq,not_or,not_and,Bool.not_eq_false,Decidable.not_not,decide_eq_true_eq,beq_iff_eq]at d c b;refine⟨e,?_,?_,f⟩
     ·by_cases hp:hP a.kind=true
      ·exact(Zbj.1 (d.2 hp)).2
      ·have:=b.1.2 (by simpa using hp);omega
     ·intro ht;have:=c ht;omega
theorem Zj0(b:f.nodes.length=4){i:Int}(hi:0≤i∧i≤3):Za4 f i (Zav f i)=f:=by
 have a:i.toNat<f.nodes.length:=by omega
 have:f.nodes.set i.toNat (Zav f i)=f.nodes:=by
  unfold Zav;rw[Zp a];simp
 unfold Za4;rw[this]
theorem come_is(f:Ft)(tw:Int)(m:Msg)(a:f.nodes.length=4)(ht:0≤tw∧tw≤3):come f tw m=Za4 f tw (if (Zav f tw).up=false∨tw=f.rogue then Zav f tw else come1 f.signs f.rogue (Zav f tw) m):=by
 unfold come;split
 ·rw[Zj0 a ht]
 ·rfl
theorem flow_mi(h:MI f)(k:Nat):MI ((f.away.take k).foldl (fun g m=>come g m.dst m) {f with away:=[] }) :=
 MI.flow _ (fun m a=>h.wi.away m (List.mem_of_mem_take a)) (h.awayed (fun m a=>by cases a) (by simp))
theorem addL_len(l:List Sign)(s:Sign):(addL l s).length≤l.length+1:=by
 unfold addL;split
 ·simp
 ·split
  ·omega
  ·simp
theorem Zrj(me:Int)(p:List Sign×List Msg)(m:Msg):(Zc8 me p m).1.length≤p.1.length+1:=by
 unfold Zc8;simp only;split
 ·exact addL_len _ _
 ·omega
theorem Znd(me:Int):∀(l:List Msg) (p:List Sign×List Msg),(l.foldl (Zc8 me) p).1.length≤p.1.length+l.length
 |[],p=>by simp
 |m::l,p=>by
  have a:=Zrj me p m
  have b:=Znd me l (Zc8 me p m)
  simp only[List.foldl_cons,Zu]
  omega
theorem Zwg(f:Ft)(i:Int):(sync f i).signs.length≤f.signs.length+(Zav f i).out.length:=by
 unfold sync;simp only;exact Znd _ _ _
theorem Zx6(h:MI f){a:At}(b:AOk a):(doA f a).signs.length≤f.signs.length+400:=by
 have c:(Zav f a.node).out.length≤400:=(h.mn a.node b.1.1 b.1.2).out;unfold Fl.doA;split
 ·unfold submit;simp only;split<;>(simp[Za4])
 ·split
  ·split
   ·omega
   ·split
    ·rw[(Zdz _ _ _).2.1];simp
    ·simp
  ·split
   ·split
    ·omega
    ·split<;>simp
   ·split
    ·rw[(Zha _ _).2.1];simp
    ·split
     ·split
      ·rw[(Zdz _ _ _).2.1];omega
      ·omega
     ·split
      ·by_cases k3:a.kind=3
       ·have d:=Zwg f a.node;unfold Fl.act;simp only;split
        ·simp[Za4]
        ·split
         ·omega
         ·split
          ·simp[Za4]
          ·omega
       ·rw[show(act f a).signs=f.signs from by
         unfold Fl.act;simp only
         repeat(first|split|rfl|contradiction)]
        omega
      ·omega
theorem Zni:∀(l:List At) (f:Ft),(∀a∈l,AOk a)→MI f→(l.foldl Fl.doA f).signs.length≤f.signs.length+400*l.length
 |[],f,_,_=>by simp
 |a::l,f,b,h=>by
  have d:=Zx6 h (b a (by simp))
  have e:=Zni l (Fl.doA f a) (fun x c=>b x (by simp[c])) (h.doA (b a (by simp)))
  simp only[List.foldl_cons,Zu]
  omega
theorem Zo8{G:List Nat}{a b c:World}{r:Option Nat}(h:Chg G a b)(d:b.grownBy c r)(f:∀q,r=some q→q∈G∨a.heap.size≤q):Chg G a c :=
 ⟨d.os.trans h.os,d.tape.trans h.tape,d.output.trans h.output,Zg h.size d.size,fun i hi hn=>(d.block i (Nat.lt_of_lt_of_le hi h.size) (fun e=>(f i e.symm).elim hn (fun h=>by omega))).trans (h.block i hi hn)⟩
theorem Zax{a b:World}{B:Nat}(d:a.grownBy b (some g))(h:g<B):VLe (View.from a.cell? B) (View.from b.cell? B):=fun ad v e=>by
 unfold View.from at e⊢
 split at e
 ·cases e
 ·rename_i c
  rw[if_neg c]
  exact d.cell e (by intro q;injection q;omega)
def RAt:View→List Value→At→Prop:=fun _ cs a=>cs=[.int .i64 a.kind,.int .i64 a.node,.int .i64 a.pick,.string a.text]
theorem RAt.mono:Mono RAt:=fun _ _ _ _ r _=>r
abbrev RAts:=RSl 4 RAt 40
theorem RAts.at{h:View}{A:Option Addr}{n c:Nat}{xs:List At}(l:RAts h (.slice A n c) xs):n=xs.length∧n≤c∧n*40≤140737488355328∧∀k (d:k<xs.length),∃b o,A=some ⟨b,o,none⟩∧h ⟨b,o+k*4,none⟩=some (.int .i64 xs[k].kind)∧h ⟨b,o+k*4+1,none⟩=some (.int .i64 xs[k].node)∧h ⟨b,o+k*4+2,none⟩=some (.int .i64 xs[k].pick)∧h ⟨b,o+k*4+3,none⟩=some (.string xs[k].text):=by
 obtain⟨A',c',e,f,_,j,_,g⟩:=l;injection e with e1 e2 e3;subst e1 e2 e3;refine⟨rfl,f,j,fun k d=>?_⟩;obtain⟨b,o,ea,i⟩:=g (by omega);obtain⟨cs,m,a,rfl⟩:=i k d;have c0:=a 0 (by omega);have c1:=a 1 (by omega);have c2:=a 2 (by omega);have c3:=a 3 (by omega);simp at c0 c1 c2 c3;exact⟨b,o,ea,c0,c1,c2,c3⟩
def atC(a:At):List Value:=[.int .i64 a.kind,.int .i64 a.node,.int .i64 a.pick,.string a.text]
theorem Ztx(l:List At):(l.map atC).flatten.length=l.length*4:=by
 induction l with
 |nil=>rfl
 |cons a l ih=>rw[List.map_cons,List.flatten_cons,Zl,ih,Zu];simp[atC];omega
theorem atC_one(l:List At):∀u∈(l.map atC).flatten,u.oneCell'=true:=by
 intro u hu;obtain⟨cs,c,b⟩:=List.mem_flatten.1 hu;obtain⟨a,_,rfl⟩:=List.mem_map.1 c;simp[atC]at b
 rcases b with rfl|rfl|rfl|rfl<;>rfl
structure OwnA (w:World) (base:Nat) (v:Value) (l:List At):Prop where
 own:w.ownsRow base 48 4 v l.length (l.map atC).flatten
theorem OwnA.nil(w:World)(base:Nat):OwnA w base (.slice none 0 0) []:=⟨World.ownsRow_nil _ _ _ _⟩
theorem OwnA.sl{base:Nat}{l:List At}(h:OwnA w base v l):OwnSl 4 RAt 48 w base v l :=
 ⟨l.map atC,h.own,by simp,fun k a=>⟨atC l[k],by simp[a],rfl,rfl⟩⟩
theorem OwnA.form{base:Nat}{l:List At}(h:OwnA w base v l):∃A c,v=.slice A l.length c:=h.sl.form
theorem OwnA.reads{base:Nat}{l:List At}(h:OwnA w base v l)(a:l.length≤100000):RAts w.cell? v l:=h.sl.reads RAt.mono (by omega)
theorem OwnA.kept{base:Nat}{l:List At}(h:OwnA w base v l)(a:Below w.heap.size w w'):OwnA w' base v l :=
 ⟨h.own.kept (row:=none) ⟨a.os,a.tape,a.output,a.size,fun k b _=>a.block k b⟩ (by cases v.ownBlock<;>simp)⟩
theorem OwnA.alloc{base:Nat}{l:List At}(h:OwnA w base v l)(x:Obj):OwnA (w.alloc x) base v l:=⟨h.own.alloc x⟩
theorem RAts.src{n:Nat}{l:List At}(h:RAts w.cell? (.slice A n c) l) :
 n=l.length∧(A=none→n=0∧c=0)∧∀ad,A=some ad→∀j u,((l.map atC).flatten)[j]?=some u→w.cell? (ad.add j)=some u:=by
 obtain⟨A',c',e,v,z,x,r,m⟩:=h;injection e with e1 e2 e3;subst e1 e2 e3;refine⟨rfl,fun q=>⟨?_,r q⟩,fun ad a j u hu=>?_⟩
 ·rcases Nat.eq_zero_or_pos l.length with h|h
  ·exact h
  ·obtain⟨b,o,ea,_⟩:=m h;rw[q]at ea;cases ea
 ·have s:j<(l.map atC).flatten.length:=(List.getElem?_eq_some_iff.1 hu).1;rw[Ztx]at s;obtain⟨b,o,ea,t⟩:=m (by omega);rw[ea]at a;injection a with a;subst a;have k:j/4<l.length:=by omega
  obtain⟨cs,y,d,g⟩:=t (j/4) k;have g:cs=atC l[j/4]:=g;have f:∀i (hi:i<(l.map atC).length),(l.map atC)[i].length=4:=fun i hi=>by simp[atC]
  have p:=Zhb (css:=l.map atC) (i:=j/4) (j:=j%4) (cs:=cs) f (by rw[g];simp[k]) (by omega);rw[show j/4*4+j%4=j by omega]at p;rw[Zbs,show o+j=o+j/4*4+j%4 by omega,d (j%4) (by omega),←p];exact hu
theorem RAts.ofBlk(l:List At)(e:Blk w g t cs)(d:cs.toList=(l.map atC).flatten)(f:l.length≤100000):RAts w.cell? (.slice (some ⟨g,0,none⟩) l.length l.length) l:=by
 refine⟨_,_,rfl,Za _,Zbw (by omega),by omega,(fun h=>by cases h),fun hp=>⟨g,0,rfl,fun i hi=>⟨atC l[i],rfl,fun j b=>?_,rfl⟩⟩⟩;have a:∀i (hi:i<(l.map atC).length),(l.map atC)[i].length=4:=fun i hi=>by simp[atC]
 have c:=Zhb (css:=l.map atC) (i:=i) (j:=j) (cs:=atC l[i]) a (by simp[hi]) b;rw[Nat.zero_add,e.cell,←Array.getElem?_toList,d,c]
theorem actInfo:(prog.info? 48).map (fun i=>(i.zero,i.size,i.bytes))=some (some (.agg #[.int .i64 0,.int .i64 0,.int .i64 0,.string ByteArray.empty]),4,40):=by kernel_rfl
theorem Zi5{base:Nat}{vy:Value}{xs ys:List At}(s y:Operand)(p:o.guard=none)(l:o.op=.call {callee:=.builtin .append,args:=#[s,y],argTypes:=#[24,24] })(t:a.eval s=v)(d:OwnA wr base v xs)(j:Below base W wr)(b:base≤wr.heap.size)(r:a.eval y=vy)(q:RAts wr.cell? vy ys)(hn:xs.length+ys.length≤100000)(h:∀v' w',OwnA w' base v' (xs++ys)→Below base W w'→wr.grownBy w' v.ownBlock→wpList prog ops Q rest (a.put o.dst v') w'):wpList prog ops Q (o::rest) a wr:=by
 obtain⟨i,hi,k,n,m⟩:=info_parts actInfo;obtain⟨A,c,rfl,_⟩:=id q;obtain⟨_,u,e⟩:=q.src;refine Zcx p s y 24 l base 48 i _ 4 40 underlying24 hi k n m rfl (by decide) v xs.length _ t d.own A ys.length c ((ys.map atC).flatten) r (Ztx ys) u e (atC_one ys) (Zbw (by omega)) (by omega) b (fun v' w' l f=>h v' w' ⟨?_⟩ (j.grown f b (fun g f=>(d.own.lt g f).1)) f);rw[Zl,List.map_append,List.flatten_append];exact l
def Zc4(n many:Int):Int:=if n<0 then(-(n+1))%many else n%many
theorem Zcc(n:Int){many:Int}(h:0<many):0≤Zc4 n many∧Zc4 n many<many:=by
 unfold Zc4
 split<;>exact⟨Int.emod_nonneg _ (by omega),Int.emod_lt_of_pos _ h⟩
def I64(n:Int):Prop:= -9223372036854775808≤n∧n≤9223372036854775807
theorem Zn5{n:Int}(h:I64 n):IntKind.i64.wrap n=n:=by
 obtain⟨a,b⟩:=h;simp only[IntKind.wrap,IntKind.signed,IntKind.bits]
 have:Int.bmod n (2^64)=n:=by
  rw[Int.bmod_def];omega
 first|exact this|(simp;omega)
theorem Zbp(n many:Int)(w:World)(hn:I64 n)(f:0<many∧many≤1000000) :
 Calls prog 24 #[.int .i64 n,.int .i64 many] w fun e w'=>e=.returned (.int .i64 (Zc4 n many))∧w=w':=by
 have d:¬many=0:=by omega
 by_cases a:n<0
 ·have e1:IntKind.i64.wrap (n+1)=n+1:=Zn5 ⟨by have:=hn.1;omega,by omega⟩;have e2:IntKind.i64.wrap (-(n+1))= -(n+1):=Zn5 ⟨by omega,by have:=hn.1;omega⟩;obtain⟨x,b⟩:∃x:Nat,-(n+1)=x:=⟨(-(n+1)).toNat,by omega⟩
  have e3:Hid (Zc4 n many=(x:Int).tmod many):=by
   show _=_;unfold Zc4;rw[if_pos a,b];exact(Int.tmod_eq_emod_of_nonneg (by omega)).symm
  have e4:IntKind.i64.wrap ((x:Int).tmod many)=(x:Int).tmod many:=by
   have:=Int.emod_lt_of_pos (x:Int) f.1;have:=Int.emod_nonneg (x:Int) d;rw[Int.tmod_eq_emod_of_nonneg (by omega)];exact Zn5 ⟨by omega,by omega⟩
  rw[b]at e2;have c:=Zb hn;clear hn;rw[e3.out];go_enter func24,ntmps24;go_wp2;go_ret;simp[e1,e2,b,e4];exact(Int.tmod_eq_emod_of_nonneg (by omega)).symm
 ·have e3:Hid (Zc4 n many=n.tmod many):=by
   show _=_;unfold Zc4;rw[if_neg a];exact(Int.tmod_eq_emod_of_nonneg (by omega)).symm
  have e4:IntKind.i64.wrap (n.tmod many)=n.tmod many:=by
   have:=Int.emod_lt_of_pos n f.1;have:=Int.emod_nonneg n d;rw[Int.tmod_eq_emod_of_nonneg (by omega)];exact Zn5 ⟨by omega,by omega⟩
  have c:=Zb hn;clear hn;rw[e3.out];go_enter func24,ntmps24;go_wp2;go_ret;simp[e4];exact(Int.tmod_eq_emod_of_nonneg (by omega)).symm
theorem Zey(n many:Int)(w:World)(hn:I64 n)(a:0<many∧many≤1000000) :
 Calls prog 10 #[.int .i64 n,.int .i64 many] w fun e w'=>e=.returned (.int .i64 (Zc4 n many))∧w=w':=by
 obtain⟨P,hP⟩:∃P,Hid (Zc4 n many=P):=⟨_,rfl⟩;have h:=Zbp n many;rw[hP.out]at h⊢;have H:=Zb (fun w=>h w hn a);clear h hn a hP;go_enter func10,ntmps10;go_wp2_with fail;refine(H.out _).mono ?_;rintro e w' ⟨rfl,rfl⟩;go_wp2;go_ret;exact⟨rfl,rfl⟩
def badI(n:Int):Int:=Zc4 n 5-1
theorem badI_ok(n:Int):inB (badI n) (-1) 3=true:=Zbj.2 (by have:=Zcc n (many:=5) (by decide);unfold badI;omega)
theorem bad_any(n:Int)(w:World)(hn:I64 n) :
 Calls prog 4 #[.int .i64 n] w fun e w'=>e=.returned (.int .i64 (badI n))∧w=w':=by
 obtain⟨P,hP⟩:∃P,Hid (Zc4 n 5=P):=⟨_,rfl⟩;have h:=Zey n 5;have a:=Zcc n (many:=5) (by decide);unfold badI;rw[hP.out]at h a⊢;have H:=Zb (fun w=>h w hn (by decide));clear h hn hP;go_enter func4,ntmps4;go_wp2_with fail;refine(H.out _).mono ?_;rintro e w' ⟨rfl,rfl⟩;go_wp2;go_ret
 first|exact⟨rfl,rfl⟩|(refine⟨?_,rfl⟩;go_num)
end Fl
end Go.Proofs.YtbcpbnfojfiekaaGreatDoor
