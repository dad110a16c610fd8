/- A part of what the last text stands on. -/
import Derived.Laws.Strings
import Derived.Test.YtbcpbnfojfiekaaGreatDoorK32
namespace Go.Proofs.YtbcpbnfojfiekaaGreatDoor
open Go.ChangeShapes Go.WideShapes Go.ChangeAt Go.RowKit Go.Proofs.Tryz Qa Qb Qc
set_option linter.all false
set_option maxHeartbeats 20000000
set_option maxRecDepth 100000
variable{w:World}{v:Value}{A:Option Addr}{h:View}{e:TypeId}{k sz bs c:Nat}{n:Fl.Nd}{α:Type}{xs:List α}{R:View→List Value→α→Prop}
namespace Fl
def RDigH(h0:View):View→List Value→List UInt8→Prop:=fun _ cs x=>RDig h0 cs x
theorem RDigH.mono(a:View):Mono (RDigH a):=fun _ _ _ _ h _=>h
theorem Zz3(n:Mono R){k:View}{o:Own}{B:Nat}(h:OwnSl sz (fun _ cs x=>R k cs x) e w B v xs)(q:∀b,B≤b→o b=none)(p:VLe k (Zas o w))(d:xs.length*bs≤140737488355328):RSl sz R bs (Zas o w) v xs:=by
 obtain⟨css,l,t,m⟩:=h.own
 have a:∀i (hi:i<css.length),css[i].length=sz:=fun i hi=>by
  obtain⟨cs,q1,q2,_⟩:=m i (by omega);rw[Zp hi]at q1;injection q1 with q1;rw[q1];exact q2
 rcases id l.2 with ⟨rfl,f⟩|⟨g,cap,cur,rfl,k2,k3,k4,k5,k6,k7⟩
 ·have:xs=[]:=List.eq_nil_of_length_eq_zero f;subst this;exact⟨none,0,rfl,Za _,Zf _,by simp,fun _=>rfl,fun h=>by simp at h⟩
 ·refine⟨_,cap,rfl,k4,k5,d,(fun h=>by cases h),fun hp=>⟨g,0,rfl,fun i hi=>?_⟩⟩;obtain⟨cs,q1,q2,q3⟩:=m i hi;refine⟨cs,q2,fun j r=>?_,n _ _ _ _ q3 p⟩;have s:=Zhb a q1 r;have c:cs[j]?=some (cs[j]'(by omega)):=Zp _;rw[c];have:=l.cells (g:=g) rfl (i*sz+j) _ (s.trans c);rw[Zbs]at this;unfold Zas;rw[if_neg (by rw[q g k2];simp)];rwa[Nat.zero_add]at this⊢
theorem Zu4(b:k<n.bats.length)(c:k<n.digs.length):((n.bats.zip n.digs).take (k+1)).foldl (Zfe n) []=Zfe n (((n.bats.zip n.digs).take k).foldl (Zfe n) []) (n.bats[k],n.digs[k]):=by
 have a:k<(n.bats.zip n.digs).length:=by simp;omega
 rw[Zn a,List.foldl_append];simp
theorem Zqg(i tb g off:Nat)(n:Nd)(o:Own)(w:World)(hl:Lim o w)(hN:NodeAt o w i tb g off n)(h8:n.digs.length≤800)(ha:n.digs.length=n.bats.length) :
 Calls prog 199 #[.pointer (some ⟨g,off,none⟩)] w fun e w'=>∃v,e=.returned v∧Below w.heap.size w w'∧RDigs (Zas o w') v (loose n):=by
 obtain⟨QL,T⟩:∃q,Hid (loose n=q):=⟨_,rfl⟩;have HQ:Hid (QL=(n.bats.zip n.digs).foldl (Zfe n) []):=T.out.symm;rw[T.out];have eg:=enters_of func227 (by kernel_rfl) rfl;have H8:=Zb h8;have HB:=Zb ha;clear h8 ha T;go_enter func199,ntmps199;go_upto_region 1 with fail;refine Zo fun W hk gd Y=>?_
 have l1:=Zam hl Y;have N1:=hN.below hl Y;have g0:=hk.cell 0;simp at g0;clear gd hN;obtain⟨g7,⟨vtx,vba,vdi,vta,vda,vow,vmi,vvo,vtp,vou⟩,S1,R1⟩:=id N1;have s0:=S1.nd0;have s4:=S1.nd4;have s5:=S1.nd5;have s7:=S1.nd7;simp only at s0 s4 s5 s7;have rda:RCrts W.cell? vda n.dag:=R1.da.mono RCrt.mono (Zah _ _);obtain⟨daA,dac,V,_⟩:=id rda;have V:vda=.slice daA n.dag.length dac:=V;subst V;have h9:n.bats.length≤800:=by rw[←HB.out];exact H8.out
 obtain⟨bA,bc,B⟩:=R1.ba.form;have B:vba=.slice bA n.bats.length bc:=B;subst B;have g3:=R1.ba.ownSl.reads (bs:=40) (fun _ _ _ _ hx _=>hx) (by omega);obtain⟨A9,c9,gj,-,-,-,-,h6⟩:=g3;injection gj with he1 _ he3;subst he1 he3;have hs:=Zb h6;have gg:RSl 1 (RDigH (Zas o W)) 24 W.cell? vdi n.digs:=R1.di.ownSl.reads (bs:=24) (fun _ _ _ _ hx _=>hx) (by have:=H8.out;omega);obtain⟨dA,dc,C⟩:=R1.di.form;have C:vdi=.slice dA n.digs.length dc:=C;subst C;obtain⟨D9,d9,hj,gs,-,-,-,e59⟩:=gg;injection hj with hf1 _ hf3;subst hf1 hf3;have E59:=Zb e59;clear h6 e59 S1 R1 g7;go_wp2_with fail
 go_loopw [3,4,5,6,12] (fun ov _ _ _ j wr=>∃(k:Nat) (L:List (List UInt8)),k≤n.bats.length∧j=.int .i64 k∧Hid (L=((n.bats.zip n.digs).take k).foldl (Zfe n) [])∧L.length≤3∧OwnSl 1 (RDigH (Zas o W)) 53 wr W.heap.size ov L∧Below W.heap.size W wr) (fun _ _ _ _ j _=>n.bats.length-(intOf j).toNat)
 case atStart=>exact⟨0,[],Zf _,rfl,rfl,by simp,OwnSl.nil _ _ _ _ _,Zm _ _⟩
 case round =>
  obtain⟨k,L,gx,rfl,hL,Q,u,A⟩:=hrel;obtain⟨uA,uc,rfl⟩:=u.form;have g2:=A.size
  by_cases O:k<n.bats.length
  ·have Z:(k:Int)<n.bats.length:=by omega
   have F:k<n.digs.length:=by rw[HB.out];exact O
   have hp:(k:Int)<n.digs.length:=by omega
   obtain⟨bb,bo,ht,N⟩:=hs.out (by omega);subst ht;obtain⟨cs9,-,d,vt,rfl,rt,gf⟩:=N k O;have y0:W.cell? ⟨bb,bo+k*3,none⟩=some (.int .i64 n.bats[k].author):=d 0 (by decide);have y1:W.cell? ⟨bb,bo+k*3+1,none⟩=some (.int .i64 n.bats[k].number):=d 1 (by decide);have y2:W.cell? ⟨bb,bo+k*3+2,none⟩=some vt:=d 2 (by decide);obtain⟨tA,tc,rfl,hw⟩:=id rt;have q:=Zaa A;have z0:=q _ _ y0;have z1:=q _ _ y1;have z2:=q _ _ y2;have s:=Zb (Zu4 O F);clear hw d N y0 y1 y2 rt gf;go_upto_region 5 with fail;refine Za8 _ _ _ _ _ (fun W=>Code.wp _ _ _ _ W) (fun W2 hI hX gl h7=>?_);have m:=A.trans (h7.mono g2);have ho:=m.size;have gu:=Y.trans (m.mono Y.size);have N2:=N1.below l1 m;have l2:=Zam l1 m;have q2:=Zaa m;have rda2:=rda.mono RCrt.mono q2;have x7:=q2 _ _ s7;have xg:=q2 _ _ g0;have i0:=hI.cell 0;simp at i0;obtain⟨QU,R⟩:∃q,Hid (usedB n n.digs[k]=q):=⟨_,Zb rfl⟩;have D:=u.kept (RDigH.mono _) h7;clear z0 z1 z2 gl;go_wp2_with fail;refine(Zh2 227 #[.pointer (some ⟨w.heap.size,0,none⟩),.pointer (some ⟨wr.heap.size,0,none⟩)] (fun x=>x.hdr.author==n.me&&x.hdr.batches.any (·==n.digs[k])) eg _ n.dag W2 rda2 (fun W3 cs x hW hx=>Zr4 i tb g off w.heap.size wr.heap.size k n cs x o W3 (Zam l2 hW) (N2.below l2 hW) (Zaa hW _ _ xg) (Zaa hW _ _ i0) F hx H8.out)).mono ?_;rintro e w3 ⟨rfl,J⟩;rw[show n.dag.any (fun x=>x.hdr.author==n.me&&x.hdr.batches.any (·==n.digs[k]))=QU from R.out];have p:=m.trans (J.mono ho);have H:=p.size;have q3:=Zaa p;have G:=hX.kept J;have ga:=hI.kept J;have r:=D.kept (RDigH.mono _) J;have x0:=q3 _ _ s0;have x5:=q3 _ _ s5;have xg3:=q3 _ _ g0;clear i0 x7 xg rda2 hX hI D
   by_cases I:n.bats[k].author=n.me
   rotate_left
   ·have g5:(n.bats[k].author==n.me)=false:=by simpa using I
    have t:Hid (L=((n.bats.zip n.digs).take (k+1)).foldl (Zfe n) []):=by
     show _=_;rw[s.out,←hL.out];unfold Zfe;rw[if_neg];rintro⟨h1,h2,h3⟩;exact I h1
    go_upto_region 6 with fail;refine Zr [] (.q 0 (.q 1 (.q 2 (.q 3 (.q 4 (.q 5 (.q 6 (.q 7 (.q 8 (.q 9 (.q 10 (.q 11 (.q 12 (.q 13 (.q 14 (.q 15 .nil)))))))))))))))) fun W4 c=>?_
    repeat((first|refine pq (h:=⟨_,fun w' f=>by(have y:=G.kept f;have y0:=y.cell 0;have y1:=Zaa f _ _ x0;have y2:=Zaa f _ _ xg3;simp at y0;go_simp;exact rfl),?_⟩)|refine Zq ?_);simp only[sx])
    refine Zai ?_;go_wp2;go_roundw
    case rel=>exact⟨k+1,L,by omega,by go_num,t,Q,r.kept (RDigH.mono _) c,p.trans (c.mono H)⟩
    case measure=>simp[intOf]<;>omega
   have g5:(n.bats[k].author==n.me)=true:=by simpa using I
   cases QU
   rotate_left
   ·have t:Hid (L=((n.bats.zip n.digs).take (k+1)).foldl (Zfe n) []):=by
     show _=_;rw[s.out,←hL.out];unfold Zfe;rw[if_neg];rintro⟨h1,h2,h3⟩;rw[R.out]at h2;cases h2
    go_upto_region 6 with fail;refine Zr [] (.q 0 (.q 1 (.q 2 (.q 3 (.q 4 (.q 5 (.q 6 (.q 7 (.q 8 (.q 9 (.q 10 (.q 11 (.q 12 (.q 13 (.q 14 (.q 15 .nil)))))))))))))))) fun W4 c=>?_
    repeat((first|refine pq (h:=⟨_,fun w' f=>by(have y:=G.kept f;have y0:=y.cell 0;have y1:=Zaa f _ _ x0;have y2:=Zaa f _ _ xg3;simp at y0;go_simp;exact rfl),?_⟩)|refine Zq ?_);simp only[sx])
    refine Zai ?_;go_wp2;go_roundw
    case rel=>exact⟨k+1,L,by omega,by go_num,t,Q,r.kept (RDigH.mono _) c,p.trans (c.mono H)⟩
    case measure=>simp[intOf]<;>omega
   by_cases h0:L.length<3
   rotate_left
   ·have g9:¬(L.length:Int)<3:=by omega
    have t:Hid (L=((n.bats.zip n.digs).take (k+1)).foldl (Zfe n) []):=by
     show _=_;rw[s.out,←hL.out];unfold Zfe;rw[if_neg];rintro⟨h1,h2,h3⟩;exact h0 h3
    go_upto_region 6 with fail;refine Zr [] (.q 0 (.q 1 (.q 2 (.q 3 (.q 4 (.q 5 (.q 6 (.q 7 (.q 8 (.q 9 (.q 10 (.q 11 (.q 12 (.q 13 (.q 14 (.q 15 .nil)))))))))))))))) fun W4 c=>?_
    repeat((first|refine pq (h:=⟨_,fun w' f=>by(have y:=G.kept f;have y0:=y.cell 0;have y1:=Zaa f _ _ x0;have y2:=Zaa f _ _ xg3;simp at y0;go_simp;exact rfl),?_⟩)|refine Zq ?_);simp only[sx])
    refine Zai ?_;go_wp2;go_roundw
    case rel=>exact⟨k+1,L,by omega,by go_num,t,Q,r.kept (RDigH.mono _) c,p.trans (c.mono H)⟩
    case measure=>simp[intOf]<;>omega
   have g9:(L.length:Int)<3:=by omega
   have t:Hid (L++[n.digs[k]]=((n.bats.zip n.digs).take (k+1)).foldl (Zfe n) []):=by
    show _=_;rw[s.out,←hL.out];unfold Zfe;rw[if_pos ⟨I,R.out,h0⟩]
   go_upto_region 6 with fail;refine Zr [] (.q 0 (.q 1 (.q 2 (.q 3 (.q 4 (.q 5 (.q 6 (.q 7 (.q 8 (.q 9 (.q 10 (.q 11 (.q 12 (.q 13 (.q 14 (.q 15 .nil)))))))))))))))) fun W4 c=>?_
   repeat((first|refine pq (h:=⟨_,fun w' f=>by(have y:=G.kept f;have y0:=y.cell 0;have y1:=Zaa f _ _ x0;have y2:=Zaa f _ _ xg3;simp at y0;go_simp;exact rfl),?_⟩)|refine Zq ?_);simp only[sx])
   refine Zai ?_;go_upto_region 7 with fail;obtain⟨eb,eo,hv,ecc⟩:=E59.out (by omega);subst hv;obtain⟨es9,g8,ecell,ed,rfl,er⟩:=ecc k F;have y5:W.cell? ⟨eb,eo+k,none⟩=some ed:=by have:=ecell 0 (by decide);simpa using this
   obtain⟨eA,ec,rfl,gm⟩:=id er;have E:=p.trans (c.mono H);have hm:=E.size;have q4:=Zaa E;have u5:=q4 _ _ s5;have ug:=q4 _ _ g0;have uy:=q4 _ _ y5;have g1:=ga.kept c;have X:=r.kept (RDigH.mono _) c;clear gm ecell ecc g8;obtain⟨ob,h5⟩:∃ob,Hid (Value.ownBlock (.slice uA L.length uc)=ob):=⟨_,rfl⟩;have z:∀q,ob=some q→W.heap.size≤q∧q<wr.heap.size:=fun q hq=>u.lt q (h5.out.trans hq)
   have ne1:∀{a:Addr} {v:Value},W.cell? a=some v→some a.block≠ob:=fun {a v} h e=>by
    have:=(z _ e.symm).1;have:=World.block_lt_of_cell? W a h;omega
   have ne2:some wr.heap.size≠ob:=fun e=>by have:=(z _ e.symm).2;omega
   have n5:=ne1 s5;have ng:=ne1 g0;have ny:=ne1 y5;refine Zt (fun w'=>Below W4.heap.size W4 w') (fun w'=>W4.grownBy w' ob) [10] (.q 0 (.q 1 (.q 2 (.q 3 (.q 4 (.q 5 (.q 6 (.q 7 (.l 8 (.l 9 (.qc 10 .nil))))))))))) ?_ ?_
   ·exact⟨Zad _,Zbf _ _⟩
   intro W5 S f
   repeat((first|refine pq (h:=⟨_,fun w' f=>by(have y:=g1.grown f ne2;have y0:=y.cell 0;have y1:=f.cell u5 n5;have y2:=f.cell ug ng;have y3:=f.cell uy ny;simp at y0;go_simp;exact rfl),?_⟩)|refine Zq ?_);simp only[sx])
   have M:=E.trans (S.mono hm);have hr:=M.size;have U:=X.kept (RDigH.mono _) S;refine Zd fun K hK=>?_
   try simp only[sy]
   go_simp;have gc:=Zac W5 (.cells #[.slice eA n.digs[k].length ec] 53);refine hK.out _ _ (Zae f (Zal _ gc)) fun f=>?_
   clear hK K
   try simp only[sx]
   refine Zd fun K hK=>?_
   try simp only[sy]
   refine Zbh (n:=140737488355328) (RDigH.mono _) n.digs[k] [.slice eA n.digs[k].length ec] Ze2 _ _ rfl rfl U (W:=W) M hr rfl rfl rfl rfl ⟨_,rfl,er⟩ (Za _) (by omega) (by omega) (fun v7 w7 hf gb P=>?_);replace P:W5.grownBy w7 ob:=by rw[←h5.out];exact P
   refine hK.out _ _ (Zae (Zal _ S) P) fun f=>?_
   clear hK K
   try simp only[sx]
   repeat(refine Zq ?_;simp only[sx])
   refine Zai ?_;obtain⟨v7A,v7c,rfl⟩:=hf.form;go_wp2;go_roundw
   case rel=>exact⟨k+1,L++[n.digs[k]],by omega,by go_num,t,by simp;omega,hf,gb⟩
   case measure=>simp[intOf]<;>omega
  ·have gh:k=n.bats.length:=by omega
   have g4:Hid (L=QL):=by
    show _=_;rw[hL.out,HQ.out,List.take_of_length_le (by simp;omega)]
   have Z:¬(k:Int)<n.bats.length:=by omega
   clear gh;go_wp2;go_ret;have hn:=Y.trans (A.mono (by have:=Y.size;omega));refine⟨_,rfl,hn,?_⟩;rw[←g4.out];exact Zz3 Ze u (fun b hB=>l1.none b (by omega)) (Zaf l1 A) (by omega)
theorem Zs0{n:Nat}{xs:List ByteArray}(j:RTexts h (.slice A n c) xs):n=xs.length∧n≤c∧n*16≤140737488355328∧∀k (a:k<xs.length),∃b o,A=some ⟨b,o,none⟩∧h ⟨b,o+k,none⟩=some (.string xs[k]):=by
 obtain⟨A',c',e,d,_,g,_,f⟩:=j;injection e with e1 e2 e3;subst e1 e2 e3;refine⟨rfl,d,g,fun k a=>?_⟩;obtain⟨b,o,ea,i⟩:=f (by omega);have:=i k a;exact⟨b,o,ea,by rw[this];simp[a,encS]⟩
theorem tl_eq{a b:List ByteArray}(e:a.length=b.length):((a.map fun s=>s.toList)==b.map fun s=>s.toList)=true↔∀k (c:k<a.length) (d:k<b.length),a[k].toList=b[k].toList:=by
 rw[beq_iff_eq];constructor
 ·intro h k c d;have:=congrArg (fun l=>l[k]?) h;simpa[c,d]using this
 ·intro h;apply List.ext_getElem (by simp[e]);intro k c d;simp at c d;simpa using h k c d
theorem Zve(va vb:Value)(a b:List ByteArray)(w:World)(J:RTexts w.cell? va a)(I:RTexts w.cell? vb b) :
 Calls prog 198 #[va,vb] w fun e w'=>e=.returned (.bool ((a.map fun s=>s.toList)==b.map fun s=>s.toList))∧Below w.heap.size w w':=by
 obtain⟨A,c,rfl,R⟩:=id J;obtain⟨B,d,rfl,y⟩:=id I;clear R y;obtain⟨-,O,S,r⟩:=Zs0 J;obtain⟨-,N,P,p⟩:=Zs0 I;have z:=Zb r;have D:=Zb p;obtain⟨Q,u⟩:∃q,Hid (((a.map fun s=>s.toList)==b.map fun s=>s.toList)=q):=⟨_,Zb rfl⟩;rw[u.out];clear J I r p;go_enter func198,ntmps198
 by_cases H:a.length=b.length
 rotate_left
 ·have C:¬(a.length:Int)=b.length:=by omega
  have m:Hid (Q=false):=by
   show _=_;rw[←u.out,Bool.eq_false_iff];intro h;have:=congrArg List.length (eq_of_beq h);simp at this;exact H this
  go_wp2;go_ret;exact⟨Zao m.out.symm,Zm _ _⟩
 have C:(a.length:Int)=b.length:=by omega
 have E:=Zb H;clear H;go_wp2_with fail
 go_loopw [5,13] (fun _ j wr=>∃k:Nat,k≤a.length∧j=.int .i64 k∧Hid (∀q (t:q<a.length) (M:q<b.length),q<k→a[q].toList=b[q].toList)∧Below w.heap.size w wr) (fun _ j _=>a.length-(intOf j).toNat)
 case atStart=>exact⟨0,Zf _,rfl,fun q _ _ h=>by omega,Zm _ _⟩
 case round =>
  obtain⟨k,T,rfl,o,f⟩:=hrel
  by_cases l:k<a.length
  ·have i:k<b.length:=by rw[←E.out];exact l
   have n:(k:Int)<a.length:=by omega
   have K:(k:Int)<b.length:=by omega
   obtain⟨b0,o0,rfl,q0⟩:=z.out k l;obtain⟨b1,o1,rfl,q1⟩:=D.out k i;have c0:=Zaa f _ _ q0;have c1:=Zaa f _ _ q1;clear q0 q1;go_upto_region 6 with fail;refine Zr [] (.q 0 (.q 1 (.q 2 (.q 3 (.q 4 (.q 5 (.q 6 (.q 7 (.q 8 .nil))))))))) fun W3 v=>?_
   repeat((first|refine pq (h:=⟨_,fun w' L=>by(have y0:=Zaa L _ _ c0;have y1:=Zaa L _ _ c1;go_simp;exact rfl),?_⟩)|refine Zq ?_);simp only[sx])
   refine Zai ?_;have g:=f.trans (v.mono f.size);clear c0 c1;cases e1:(a[k].toList==b[k].toList)
   ·have m:Hid (Q=false):=by
     show _=_;rw[←u.out,Bool.eq_false_iff];intro h;have:=(tl_eq E.out).1 h k l i;rw[this]at e1;simp at e1
    go_wp2;go_ret;exact⟨Zao m.out.symm,g⟩
   ·have t:Hid (a[k].toList=b[k].toList):=eq_of_beq e1;go_wp2;go_roundw
    case rel=>exact⟨k+1,by omega,by go_num,fun q G x U=>by
     by_cases e:q=k
     ·subst e;exact t.out
     ·exact o.out q G x (by omega),g⟩
    case measure=>simp[intOf];omega
  ·have F:Hid (Q=true):=by
    show _=_;rw[←u.out];exact(tl_eq E.out).2 fun q t M=>o.out q t M (by omega)
   have n:¬(k:Int)<a.length:=by omega
   go_wp2;go_ret;exact⟨Zao F.out.symm,f⟩
theorem hasFn_any(gb:Nat)(b:Bat)(vt:Value)(cs:List Value)(x:Bat)(w:World)(n:Blk w gb 82 #[.int .i64 b.author,.int .i64 b.number,vt])(p:RTexts w.cell? vt b.txs)(t:RBat w.cell? cs x) :
 Calls prog 197 (#[.agg cs.toArray]++#[.pointer (some ⟨gb,0,none⟩)]) w fun e w'=>e=.returned (.bool (Zwq x b))∧Below w.heap.size w w':=by
 obtain⟨u,rfl,ru,i⟩:=t;obtain⟨uA,uc,rfl,m⟩:=id ru;obtain⟨tA,tc,rfl,j⟩:=id p;clear m j;show Calls prog 197 #[.agg #[.int .i64 x.author,.int .i64 x.number,.slice uA x.txs.length uc],.pointer (some ⟨gb,0,none⟩)] w _;obtain⟨Q,r⟩:∃q,Hid (((x.txs.map fun s=>s.toList)==b.txs.map fun s=>s.toList)=q):=⟨_,Zb rfl⟩;have v:Hid (Zwq x b=(x.author==b.author&&(x.number==b.number&&Q))):=by show _=_;rw[←r.out];rfl
 rw[v.out];have z0:=n.cell 0;have z1:=n.cell 1;have z2:=n.cell 2;simp at z0 z1 z2;clear i;go_enter func197,ntmps197;go_upto_region 1 with fail;refine Zo fun W f k a=>?_
 have y0:=Zaa a _ _ z0;have y1:=Zaa a _ _ z1;have y2:=Zaa a _ _ z2;have k0:=f.cell 0;have k1:=f.cell 1;have k2:=f.cell 2;simp at k0 k1 k2;clear k z0 z1 z2 f;have g:=a.size
 by_cases o:x.author=b.author
 rotate_left
 ·have c:(x.author==b.author)=false:=by simpa using o
  go_wp2;go_ret;exact⟨Zao (by simp[c]),a⟩
 have c:(x.author==b.author)=true:=by simpa using o
 by_cases hn:x.number=b.number
 rotate_left
 ·have d:(x.number==b.number)=false:=by simpa using hn
  go_wp2;go_ret;exact⟨Zao (by simp[d]),a⟩
 have d:(x.number==b.number)=true:=by simpa using hn
 go_wp2_with fail;refine(Zve _ _ x.txs b.txs _ (ru.mono (Zaa a)) (p.mono (Zaa a))).mono ?_
 rintro e w4 ⟨rfl,l⟩;rw[r.out];go_wp2;go_ret;exact⟨Zao (by simp[c,d]),a.trans (l.mono g)⟩
theorem has_any(i tb g off:Nat)(n:Nd)(b:Bat)(vt:Value)(o:Own)(w:World)(hN:NodeAt o w i tb g off n)(l:RTexts w.cell? vt b.txs)(t:n.bats.length≤800) :
 Calls prog 156 #[.pointer (some ⟨g,off,none⟩),.agg #[.int .i64 b.author,.int .i64 b.number,vt]] w fun e w'=>e=.returned (.bool (has n b))∧Below w.heap.size w w':=by
 obtain⟨tA,tc,rfl,f⟩:=id l;clear f;obtain⟨k,⟨vtx,vba,vdi,vta,vda,vow,vmi,vvo,vtp,vou⟩,S1,R1⟩:=id hN;have s4:=S1.nd4;simp only at s4;have rba:RBats w.cell? vba n.bats:=R1.ba.reads (bs:=40) RBat.mono (by omega);obtain⟨bA,bc,a⟩:=R1.ba.form;have a:vba=.slice bA n.bats.length bc:=a;subst a;obtain⟨Q,m⟩:∃q,Hid (has n b=q):=⟨_,rfl⟩;rw[m.out];have eg:=enters_of func197 (by kernel_rfl) rfl;clear S1 R1 k hN;go_enter func156,ntmps156;go_upto_region 1 with fail;refine Zo fun W r j c=>?_
 have y4:=Zaa c _ _ s4;clear j s4;go_wp2_with fail;refine(Zsj 197 #[.pointer (some ⟨w.heap.size,0,none⟩)] (fun x=>Zwq x b) eg _ n.bats W (rba.mono RBat.mono (Zaa c)) (fun W2 cs x p s=>hasFn_any w.heap.size b _ cs x W2 (r.kept p) ((l.mono (Zaa c)).mono (Zaa p)) s)).mono ?_;rintro e w3 ⟨rfl,d⟩;rw[show n.bats.any (fun x=>Zwq x b)=Q from m.out];go_wp2;go_ret;exact⟨rfl,c.trans (d.mono c.size)⟩
end Fl
end Go.Proofs.YtbcpbnfojfiekaaGreatDoor
