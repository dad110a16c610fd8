/- A part of what the last text stands on. -/
import Derived.Test.YtbcpbnfojfiekaaGreatDoorK12
import Derived.Test.YtbcpbnfojfiekaaGreatDoorK13
import Derived.Test.YtbcpbnfojfiekaaGreatDoorK15
namespace Go.Proofs.YtbcpbnfojfiekaaGreatDoor
open Go.ChangeShapes Go.WideShapes Go.ChangeAt Go.RowKit Go.Proofs.Tryz Qa Qb Qc
set_option linter.all false
set_option maxHeartbeats 20000000
set_option maxRecDepth 100000
variable{P:Program}{w w' W:World}{a:Act}{o:Oper}{ops:Array Oper}{rest:List Oper}{Q:Exit→Act→World→Prop}{v:Value}{cur cs:Array Value}{h:View}{e t te:TypeId}{k g off sz bs b:Nat}{x y:Operand}{α:Type}{xs:List α}{enc:α→Value}{R:View→List Value→α→Prop}{l:List Crt}
theorem Zsm(h:Tabs w.cell?):∀j v,(Zc5.map encU)[j]?=some v→w.cell? ((⟨9,0,none⟩:Addr).add j)=some v:=fun j v b=>by
 have a:j<Zc5.length:=by have:=(List.getElem?_eq_some_iff.1 b).1;simpa using this
 rw[Zbs,Nat.zero_add,h.first j a,←Zg0 a]
 simpa[a]using b
theorem Zoa{x t:Nat}:IntKind.u8.wrap ((x:Int)/2^t)=((UInt8.ofNat (x/2^t%256)).toNat:Int):=by
 rw[show(x:Int)/2^t=((x/2^t:Nat):Int) by push_cast;rfl,IntKind.wrap_u8,UInt8.toNat_ofNat'];omega
theorem Zf4(c:Below w.heap.size w W)(d:w.heap.size≤g):VLe w.cell? (View.but W.cell? (some g)):=fun a u hu=>by
 have b:=World.block_lt_of_cell? w a hu
 unfold View.but
 rw[if_neg (by intro e;injection e with e;omega)]
 exact Zaa c _ _ hu
theorem Zqo(s0 s1 s2 s3 s4 s5 s6 s7:Nat)(j:Nat)(a:j<8)(w:World):(Instr.index 306 (.agg ([s0,s1,s2,s3,s4,s5,s6,s7].map encU).toArray) (.int .i64 j)).run prog w=.ok (.int .u32 (at0 [s0,s1,s2,s3,s4,s5,s6,s7] j:Nat)) w :=
 match j,a with
 |0,_=>by kernel_rfl
 |1,_=>by kernel_rfl
 |2,_=>by kernel_rfl
 |3,_=>by kernel_rfl
 |4,_=>by kernel_rfl
 |5,_=>by kernel_rfl
 |6,_=>by kernel_rfl
 |7,_=>by kernel_rfl
theorem Zsd(S:List Nat)(k:S.length=8)(j:Nat)(i:j<8)(w:World):(Instr.index 306 (.agg (S.map encU).toArray) (.int .i64 j)).run prog w=.ok (.int .u32 (at0 S j:Nat)) w :=
 match S,k with
 |[a,b,c,d,e,f,g,h],_=>Zqo a b c d e f g h j i w
theorem RVec.ofBlk(c:Blk w g t (xs.map enc).toArray)(a:xs.length≤140737488355328)(b:xs.length*bs≤140737488355328):RVec enc bs w.cell? (.slice (some ⟨g,0,none⟩) xs.length xs.length) xs :=
 ⟨_,_,rfl,Za _,Zbw a,b,(fun h=>by cases h),fun _=>⟨g,0,rfl,fun i hi=>by rw[Nat.zero_add,c.cell];simp[hi]⟩⟩
theorem bytes4(S:List Nat)(j:Nat):(List.range (4*(j+1))).map (Zd9 S)=(List.range (4*j)).map (Zd9 S)++[Zd9 S (4*j),Zd9 S (4*j+1),Zd9 S (4*j+2),Zd9 S (4*j+3)]:=by
 rw[show 4*(j+1)=4*j+1+1+1+1 by omega,List.range_succ,List.range_succ,List.range_succ,List.range_succ];simp
theorem Zpb(S:List Nat)(j r:Nat)(a:r<4):Zd9 S (4*j+r)=UInt8.ofNat (at0 S j/2^(8*r)%256):=by
 unfold Zd9;rw[show(4*j+r)/4=j by omega,show(4*j+r)%4=r by omega]
theorem bsum_any(v:Value)(b:List UInt8)(w:World)(hv:Zan w.cell? v b)(hb:b.length≤4000)(hT:Tabs w.cell?) :
 Calls prog 212 #[v] w fun e w'=>∃d,e=.returned d∧Below w.heap.size w w'∧OwnB w' w.heap.size d (sumB b):=by
 obtain⟨A,c,rfl,h9,_⟩:=id hv;obtain⟨n,y⟩:∃n,Hid (b.length=n):=⟨_,rfl⟩;rw[y.out]at hv h9 hb⊢;have Hv:=Zb hv;have HT:=Zb hT;have r:=Zsm hT;clear hv hT;obtain⟨FA,Q⟩:∃FA:Value,Hid (FA=.agg (Zc5.map encU).toArray):=⟨_,rfl⟩;go_enter func212,ntmps212
 go_wp2_with (first
  |(refine Zbe (n:=8) (v:=FA) (Zc5.map encU) Q.out rfl rfl rfl (by kernel_rfl) (by kernel_rfl) (by kernel_rfl) r ?_)
  |(refine Zcl (n:=8) rfl rfl rfl Q.out (by kernel_rfl) rfl (Blk.new _ _ _) rfl rfl ?_))
 clear r;intro w1 h3 M;obtain⟨F,hF⟩:∃F,Hid (Zc5=F):=⟨_,rfl⟩;have h7:F.length=8∧W32 (at0 F 0):=hF.out▸⟨rfl,by unfold W32;decide⟩;have C:Arr w1 w.heap.size 306 encU F:=by rw[←hF.out];exact h3
 have H:Below w.heap.size w w1:=Zab (Zac _ _) (Zar _ (Za _)) M (by intro k e;injection e;omega);obtain⟨gs,l⟩:∃gs,Hid (w.heap.size=gs):=⟨_,rfl⟩;rw[l.out]at C⊢;have hf:=Zct C (i:=0) (by omega);have e1:bits .xor .u32 (at0 F 0:Nat) 16842784=(Zcv (at0 F 0) 16842784:Nat):=Zf5 h7.2 (show W32 16842784 by unfold W32;decide);clear h3 M;go_wp2_with (refine Zed (xs:=F) (i:=0) (Zcv (at0 F 0) 16842784) rfl rfl rfl rfl (by kernel_rfl) rfl rfl C (by omega) ?_);intro w2 I X;rw[show F.set 0 (Zcv (at0 F 0) 16842784)=Zep b 0 from by rw[←hF.out];rfl]at I;have h0:Below w.heap.size w w2:=Zab H H.size X (by intro k e;injection e;have:=l.out;omega);clear X hf e1 C H;go_wp2_with fail
 go_loopw [0,4] (fun v i wr=>∃k:Nat,(k=0∨64*k<n)∧i=.int .i64 ((64*k:Nat):Int)∧(∃A' c',v=.slice A' (n-64*k) c'∧Hid (Zan w.cell? v (b.drop (64*k))))∧Arr wr gs 306 encU (Zep b k)∧Below w.heap.size w wr) (fun _ i _=>n-(intOf i).toNat)
 case atStart=>exact⟨0,.inl rfl,rfl,⟨A,c,rfl,Hv.out⟩,I,h0⟩
 case round =>
  clear I h0;obtain⟨k,hk,rfl,⟨A',c',rfl,K⟩,a,f⟩:=hrel;have hz:=f.size;have z:=Zq8 b (k:=k) (by omega);obtain⟨S0,G⟩:∃S0,Hid (Zep b k=S0):=⟨_,rfl⟩;obtain⟨at',o⟩:∃at':Nat,Hid (64*k=at'):=⟨_,rfl⟩;obtain⟨D,hD⟩:∃D,Hid (b.drop (64*k)=D):=⟨_,rfl⟩;obtain⟨m,hm⟩:∃m:Nat,Hid (n-64*k=m):=⟨_,rfl⟩;have hx:D.length=m:=hD.out▸(by rw[List.length_drop,y.out,hm.out]);have hs:at'+m=n:=by have:=o.out;have:=hm.out;omega
  have hh:k=0∨at'<n:=by rw[←o.out];exact hk
  rw[hD.out,hm.out]at K;rw[G.out]at z a;rw[hm.out,o.out];have g2:m≤c':=by obtain⟨_,_,e,h,_⟩:=K.out;injection e with _ e2 e3;omega
  by_cases ht:64<m
  ·have u:=K.out.take (k:=64) (by omega);have g:=K.out.part (lo:=64) (m:=m-64) (by omega);obtain⟨P,hP⟩:∃P,Hid (D.take 64=P):=⟨_,rfl⟩;have h8:P.length≤64:=hP.out▸(by rw[List.length_take];omega);obtain⟨at2,q⟩:∃at2,Hid (at'+64=at2):=⟨_,rfl⟩;have hn:Hid (Zf6 S0 P at2 false=Zep b (k+1)):=by show _=_;rw[Zi1,hD.out,o.out,q.out,G.out,hP.out]
   have Y:(D.drop 64).take (m-64)=b.drop (64*(k+1)):=by
    rw[List.take_of_length_le (by simp;omega),←hD.out,List.drop_drop]
    congr 1
   rw[Y]at g;rw[hP.out]at u;have B:=Zb g;have e2:(at':Int)+64=at2:=by have:=q.out;omega
   clear g Y;go_wp2_with fail;refine(Zs1 gs S0 _ P at2 false _ a z (u.mono (Zf4 f (by rw[l.out];exact Za _))) h8 (by unfold W32;have:=q.out;omega) (HT.out.mono (Zf4 f (by rw[l.out];exact Za _)))).mono ?_;rintro e w3 ⟨rfl,s,E⟩;rw[hn.out]at s;have p:Below w.heap.size w w3:=f.trans (E.below (by simp;have:=l.out;omega) hz);go_wp2_with fail;go_roundw
   case rel=>exact⟨k+1,.inr (by have:=o.out;omega),by have:=o.out;have:=q.out;congr 1;omega,⟨_,_,by congr 1;have:=o.out;omega,by exact B.out⟩,s,p⟩
   case measure=>simp[intOf];omega
  ·have U:k=ahead b.length:=by rw[y.out];unfold ahead;have:=o.out;have:=hm.out;omega
   have hw:¬(64:Int)<m:=by omega
   have e3:(at':Int)+m=n:=by omega
   go_wp2_with fail;refine(Zs1 gs S0 _ D n true _ a z (K.out.mono (Zf4 f (by rw[l.out];exact Za _))) (by omega) (by unfold W32;omega) (HT.out.mono (Zf4 f (by rw[l.out];exact Za _)))).mono ?_
   rintro e w3 ⟨rfl,s,E⟩;obtain⟨S,hS⟩:∃S,Hid (Zf6 S0 D n true=S):=⟨_,rfl⟩;have R:Ws 8 S:=hS.out▸Zm4 z _ (by unfold W32;omega) _;rw[hS.out]at s;have p:Below w.heap.size w w3:=f.trans (E.below (by simp;have:=l.out;omega) hz);have h4:=p.size
   have Z:Hid (sumB b=(List.range 32).map (Zd9 S)):=by
    show _=_;unfold sumB;rw[←U,y.out,hD.out,G.out,hS.out]
   clear a f hk U hh K E;obtain⟨SA,N⟩:∃SA:Value,Hid (SA=.agg (S.map encU).toArray):=⟨_,rfl⟩;have r:∀j v,(S.map encU)[j]?=some v→w3.cell? ((⟨gs,0,none⟩:Addr).add j)=some v:=fun j v hj=>by rw[Zbs,Nat.zero_add,Blk.cell s];simpa using hj
   have T:∀j,j<8→∀w,(Instr.index 306 SA (.int .i64 (j:Nat))).run prog w=.ok (.int .u32 (at0 S j:Nat)) w:=by rw[N.out];exact Zsd S R.1
   have hc:=Zb T;clear T;go_wp2_with (refine Zbe (n:=8) (v:=SA) (S.map encU) N.out rfl rfl rfl (by kernel_rfl) (by kernel_rfl) (by rw[List.length_map];exact R.1) r ?_);clear r
   go_loopw [5,31] (fun v i wr=>∃j:Nat,j≤8∧i=.int .i64 j∧OwnB wr w3.heap.size v ((List.range (4*j)).map (Zd9 S))∧Below w3.heap.size w3 wr) (fun _ i _=>8-(intOf i).toNat)
   case atStart=>exact⟨0,Zf _,rfl,OwnVec.nil _ _ _ _,Zm _ _⟩
   case round =>
    obtain⟨j,hj,rfl,a,f⟩:=hrel;have h2:=f.size
    by_cases O:j<8
    ·have g0:(j:Int)<8:=by omega
     have g1:=hc.out j O;have J:=Zb (bytes4 S j);have u0:=Zoa (x:=at0 S j) (t:=8*0);have u1:=Zoa (x:=at0 S j) (t:=8*1);have u2:=Zoa (x:=at0 S j) (t:=8*2);have u3:=Zoa (x:=at0 S j) (t:=8*3);rw[←Zpb S j 0 (by decide)]at u0;rw[←Zpb S j 1 (by decide)]at u1;rw[←Zpb S j 2 (by decide)]at u2;rw[←Zpb S j 3 (by decide)]at u3;rw[Nat.add_zero]at u0;generalize Zd9 S (4*j)=U0 at u0 J;generalize Zd9 S (4*j+1)=U1 at u1 J;generalize Zd9 S (4*j+2)=U2 at u2 J;generalize Zd9 S (4*j+3)=U3 at u3 J;have V:((List.range (4*j)).map (Zd9 S)).length≤32:=by rw[List.length_map,List.length_range];omega
     generalize hL:(List.range (4*j)).map (Zd9 S)=L at a V J;simp at u0 u1 u2 u3;go_wp2_with (at_builtin;go_loud (refine Za6 (n:=1024) (W:=w3) (ys:=[U0,U1,U2,U3]) Za7 Zb0 _ _ rfl rfl rfl (a.alloc _) (f.alloc h2 _) (Zar _ h2) rfl (RVec.ofBlk (xs:=[U0,U1,U2,U3]) (Blk.new _ _ _) (by simp) (by simp)) (by decide) (by simp;omega) (by simp;omega) ?_));intro v' w5 hg hl he;clear he;go_wp2;go_roundw
     case rel=>exact⟨j+1,by omega,by go_num,by rw[J.out];exact hg,hl⟩
     case measure=>simp[intOf];omega
    ·have h6:j=8:=by omega
     rw[h6,←Z.out]at a;go_wp2;go_ret;exact⟨_,rfl,p.trans (f.mono h4),a.base h4⟩
def Zdv(tag:UInt8)(l:List (List UInt8)):List UInt8:=tag::(l.map fun p=>[UInt8.ofNat (p.length/256),UInt8.ofNat (p.length%256)]++p).flatten
def tagE(tag:UInt8)(l:List (List UInt8)):Int:=if 4000<(Zdv tag l).length then 1 else 0
def tagR(tag:UInt8)(l:List (List UInt8)):List UInt8:=if 4000<(Zdv tag l).length then []else sumB (Zdv tag l)
theorem Zk3(tag:UInt8)(l:List (List UInt8))(a:k<l.length):Zdv tag (l.take (k+1))=Zdv tag (l.take k)++[UInt8.ofNat (l[k].length/256),UInt8.ofNat (l[k].length%256)]++l[k]:=by
 unfold Zdv;rw[Zn a,List.map_append,List.flatten_append,List.map_singleton,List.flatten_singleton];simp only[List.cons_append,List.nil_append,List.append_assoc]
theorem Zuh(tag:UInt8)(l:List (List UInt8))(a:k<l.length):(Zdv tag (l.take (k+1))).length=(Zdv tag (l.take k)).length+2+l[k].length:=by
 rw[Zk3 tag l a];simp;omega
theorem Zwd(tag:UInt8)(l:List (List UInt8))(k:Nat):(Zdv tag (l.take k)).length≤(Zdv tag l).length:=by
 have:l=l.take k++l.drop k:=(List.take_append_drop k l).symm
 conv=>rhs;rw[this]
 unfold Zdv;rw[List.map_append,List.flatten_append];simp
theorem u8_hi{n:Nat}:IntKind.u8.wrap ((n:Int)/256)=((UInt8.ofNat (n/256)).toNat:Int):=by
 rw[IntKind.wrap_u8,UInt8.toNat_ofNat'];omega
theorem u8_lo{n:Nat}:IntKind.u8.wrap (n:Int)=((UInt8.ofNat (n%256)).toNat:Int):=by
 rw[IntKind.wrap_u8,UInt8.toNat_ofNat'];omega
theorem Znb(tag:UInt8)(v:Value)(l:List (List UInt8))(w:World)(C:RDigs w.cell? v l)(hT:Tabs w.cell?) :
 Calls prog 178 #[.int .u8 tag.toNat,v] w fun e w'=>∃d,e=.returned (.tuple #[d,.int .i64 (tagE tag l)])∧Below w.heap.size w w'∧Zan (View.from w'.cell? w.heap.size) d (tagR tag l):=by
 obtain⟨A,c,rfl,_⟩:=id C;obtain⟨_,Q,O,t⟩:=C.at;have h:=Zb t;have T:=Zb hT;clear t C hT;obtain⟨E,F⟩:∃E,Hid (tagE tag l=E):=⟨_,rfl⟩;obtain⟨R,L⟩:∃R,Hid (tagR tag l=R):=⟨_,rfl⟩;rw[F.out,L.out];go_enter func178,ntmps178;go_wp2_with fail
 go_loopw [6,13] (fun v i wr=>∃k:Nat,k≤l.length∧i=.int .i64 k∧OwnB wr w.heap.size v (Zdv tag (l.take k))∧(Zdv tag (l.take k)).length≤4000∧Below w.heap.size w wr) (fun _ i _=>l.length-(intOf i).toNat)
 case atStart=>exact⟨0,Zf _,rfl,OwnVec.lit (xs:=[tag]) (Blk.new _ _ _) (Za _) rfl (by decide),by simp[Zdv],Zac _ _⟩
 case round =>
  obtain⟨k,V,rfl,a,f,b⟩:=hrel;have u:=b.size;obtain⟨oA,oc,rfl⟩:=a.form
  by_cases o:k<l.length
  ·obtain⟨b0,o0,d,rfl,q0,hd⟩:=h.out k o;have c0:=Zaa b _ _ q0;obtain⟨dA,dc,rfl,_⟩:=id hd;have K:=Zb hd;have q:=Zb (Zk3 tag l o);have g:=Zuh tag l o;have N:=Zwd tag l (k+1);clear q0 hd;generalize H:Zdv tag (l.take k)=B at a f q g;generalize l[k]=p at K q g c0;obtain⟨m,I⟩:∃m,Hid (p.length=m):=⟨_,rfl⟩;obtain⟨n,hn⟩:∃n,Hid (B.length=n):=⟨_,rfl⟩;have U:=hn.out;rw[I.out]at g c0 q K;rw[hn.out]at g f a
   by_cases P:4000<n+2+m
   ·have J:Hid (E=1):=by show _=_;rw[←F.out];exact if_pos (by omega)
    have x:Hid (R=[]):=by show _=_;rw[←L.out];exact if_pos (by omega)
    rw[hn.out];go_wp2
    all_goals
     go_ret2;exact⟨_,by rw[J.out];rfl,b,by rw[x.out];exact RVec.nil _ _ _⟩
   ·have u0:=u8_hi (n:=m);have u1:=u8_lo (n:=m);generalize UInt8.ofNat (m/256)=U0 at u0 q;generalize UInt8.ofNat (m%256)=U1 at u1 q;have a:OwnB wr w.heap.size (.slice oA n oc) B:=a;rw[hn.out]
    go_wp2_with (at_builtin;first
     |(refine Za6 (n:=140737488355328) (W:=w) (ys:=[U0,U1]) Za7 Zb0 _ _ rfl rfl rfl (a.alloc _) (b.alloc u _) (Zar _ u) rfl (RVec.ofBlk (xs:=[U0,U1]) (Blk.new _ _ _) (by simp) (by simp)) (by decide) (by simp;omega) (by simp;omega) ?_))
    intro v1 w1 r j y;have z:=j.size;go_wp2_with (at_builtin;go_loud (refine Za6 (n:=140737488355328) (W:=w) (ys:=p) Za7 Zb0 _ _ rfl rfl rfl r j z rfl (K.out.mono (Zaa j)) (by decide) (by simp;have:=I.out;omega) (by simp;have:=I.out;omega) ?_));intro v2 w2 M G D;clear y D r;go_wp2;go_roundw
    case rel=>exact⟨k+1,by omega,by go_num,by rw[q.out];simpa using M,by rw[g];omega,G⟩
    case measure=>simp[intOf];omega
  ·have s:k=l.length:=by omega
   rw[s,List.take_length]at a f;have J:Hid (E=0):=by show _=_;rw[←F.out];exact if_neg (by omega)
   have x:Hid (R=sumB (Zdv tag l)):=by show _=_;rw[←L.out];exact if_neg (by omega)
   obtain⟨B,H⟩:∃B,Hid (Zdv tag l=B):=⟨_,rfl⟩;rw[H.out]at a f x;rw[s,List.take_length,H.out];go_wp2_with fail;refine(bsum_any _ B _ (a.reads (by omega)) f (T.out.mono (Zaa b))).mono ?_;rintro e w1 ⟨d,rfl,j,S⟩;go_wp2;go_ret2;exact⟨_,by rw[J.out];rfl,b.trans (j.mono u),by rw[x.out];exact S.from_ (bs:=1) (by rw[Zs3];decide) u⟩
theorem Zba{b':Nat}(c:b'≤b):VLe (View.from h b) (View.from h b'):=fun a v e=>by
 unfold View.from at e⊢
 split at e
 ·cases e
 ·rw[if_neg (by omega)];exact e
def batD(a n:Int)(l:List ByteArray):List UInt8:=tagR 1 [Zfn a n l]
def hdrD(a r:Int)(b p:List (List UInt8)):List UInt8:=tagR 2 [Zcd a r b p]
def Zvq(a n:Int)(l:List ByteArray):List UInt8:=if Zcs a n l=0 then batD a n l else []
def Zjq(a r:Int)(b p:List (List UInt8)):List UInt8:=if Zb5 a r b p=0 then hdrD a r b p else []
theorem Zws(w:World){d:Value}{x:List UInt8}(hd:Zan w.cell? d x):RDigs (w.alloc (.cells #[d] 53)).cell? (.slice (some ⟨w.heap.size,0,none⟩) 1 1) [x] :=
 digs_one ((Blk.new w 53 #[d]).cell 0) (hd.mono (Zaa (Zac _ _)))
theorem Zsh{a r:Int}{b p:List (List UInt8)}(h:Zb5 a r b p=0):1≤r∧r≤1048576∧b.flatten.length+p.flatten.length≤224:=by
 obtain⟨c,d,e,f⟩:=headF_zero h;exact⟨c,d,by omega⟩
theorem Zkl(a n:Int)(vl:Value)(l:List ByteArray)(w:World)(z:RTexts w.cell? vl l)(F:∀s∈l,s.size≤140737488355328)(hT:Tabs w.cell?) :
 Calls prog 131 #[.agg #[.int .i64 a,.int .i64 n,vl]] w fun e w'=>∃d,e=.returned (.tuple #[d,.int .i64 (Zcs a n l)])∧Below w.heap.size w w'∧Zan (View.from w'.cell? w.heap.size) d (Zvq a n l):=by
 obtain⟨A,c,rfl,_⟩:=id z;obtain⟨E,o⟩:∃E,Hid (Zcs a n l=E):=⟨_,rfl⟩;obtain⟨R,y⟩:∃R,Hid (Zvq a n l=R):=⟨_,rfl⟩;rw[o.out,y.out];go_enter func131,ntmps131;go_wp2_with fail;refine Za9 _ _ _ (fun W=>Calls prog _ _ W _) (fun W u B k=>?_);refine(Zht a n _ l _ (z.mono (Zaa k)) F).mono ?_;rintro e w1 ⟨rfl,q⟩;have i:=k.trans (q.mono k.size);have f:=u.kept q;rw[o.out]
 by_cases h:E=0
 ·subst h;obtain⟨q0,q1,q2⟩:=batchF_zero o.out;obtain⟨Y,x⟩:∃Y,Hid (Zfn a n l=Y):=⟨_,rfl⟩;have m:Hid (tagR 1 [Y]=R):=by show _=_;rw[←y.out,←x.out];unfold Zvq batD;rw[if_pos o.out]
  have g0:=f.cell 0;have g1:=f.cell 1;have g2:=f.cell 2;simp at g0 g1 g2;go_wp2_with fail;refine(Zj5 w1 _ [] a n _ l _ (Zm _ _) (OwnVec.nil _ _ _ _) (by omega) (by omega) (z.mono (Zaa i)) (by simp only[List.length_nil];omega)).mono ?_;rintro e w2 ⟨v1,rfl,t,_,g⟩;rw[List.nil_append,x.out]at g;have D:Y.length≤140737488355328:=by rw[←x.out,batchB_len];omega
  have j:=i.trans (t.mono i.size);clear f u;obtain⟨A1,c1,rfl⟩:=g.form;go_wp2_with fail;have v:=Zac w2 (.cells #[.slice A1 Y.length c1] 53);have b:=j.trans (v.mono j.size);refine(Znb 1 _ [Y] _ (Zws w2 (g.reads (bs:=1) (by omega))) (hT.mono (Zaa b))).mono ?_;rintro e w3 ⟨d,rfl,r,C⟩;have p:=b.trans (r.mono b.size);rw[m.out]at C;clear g hT;go_wp2;go_ret2;exact⟨_,rfl,p,C.mono (Zba b.size)⟩
 ·have m:Hid (R=[]):=by show _=_;rw[←y.out];unfold Zvq;rw[if_neg (by rw[o.out];exact h)]
  clear u f;go_wp2;go_ret2;exact⟨_,rfl,i,by rw[m.out];exact RVec.nil _ _ _⟩
theorem Zby(a n:Int)(vb vp:Value)(b p:List (List UInt8))(w:World)(y:RDigs w.cell? vb b)(hp:RDigs w.cell? vp p)(hT:Tabs w.cell?) :
 Calls prog 134 #[.agg #[.int .i64 a,.int .i64 n,vb,vp]] w fun e w'=>∃d,e=.returned (.tuple #[d,.int .i64 (Zb5 a n b p)])∧Below w.heap.size w w'∧Zan (View.from w'.cell? w.heap.size) d (Zjq a n b p):=by
 obtain⟨bA,bc,rfl,_⟩:=id y;obtain⟨pA,pc,rfl,_⟩:=id hp;obtain⟨E,m⟩:∃E,Hid (Zb5 a n b p=E):=⟨_,rfl⟩;obtain⟨R,x⟩:∃R,Hid (Zjq a n b p=R):=⟨_,rfl⟩;rw[m.out,x.out];go_enter func134,ntmps134;go_wp2_with fail;refine Za9 _ _ _ (fun W=>Calls prog _ _ W _) (fun W t h j=>?_);refine(Zdr a n _ _ b p _ (y.mono Ze (Zaa j)) (hp.mono Ze (Zaa j))).mono ?_;rintro e w1 ⟨rfl,q⟩;have g:=j.trans (q.mono j.size);have f:=t.kept q;rw[m.out]
 by_cases z:E=0
 ·subst z;obtain⟨q0,q1,q2⟩:=Zsh m.out;obtain⟨Y,v⟩:∃Y,Hid (Zcd a n b p=Y):=⟨_,rfl⟩;have l:Hid (tagR 2 [Y]=R):=by show _=_;rw[←x.out,←v.out];unfold Zjq hdrD;rw[if_pos m.out]
  have g0:=f.cell 0;have g1:=f.cell 1;have g2:=f.cell 2;have g3:=f.cell 3;simp at g0 g1 g2 g3;go_wp2_with fail;refine(Zf9 w1 _ [] a n _ _ b p _ (Zm _ _) (OwnVec.nil _ _ _ _) (by omega) (by omega) (y.mono Ze (Zaa g)) (hp.mono Ze (Zaa g)) (by simp only[List.length_nil];omega)).mono ?_;rintro e w2 ⟨v1,rfl,s,_,i⟩;rw[List.nil_append,v.out]at i;have B:Y.length≤140737488355328:=by rw[←v.out,headerB_len];omega
  have k:=g.trans (s.mono g.size);clear f t;obtain⟨A1,c1,rfl⟩:=i.form;go_wp2_with fail;have u:=Zac w2 (.cells #[.slice A1 Y.length c1] 53);have c:=k.trans (u.mono k.size);refine(Znb 2 _ [Y] _ (Zws w2 (i.reads (bs:=1) (by omega))) (hT.mono (Zaa c))).mono ?_;rintro e w3 ⟨d,rfl,r,A⟩;have o:=c.trans (r.mono c.size);rw[l.out]at A;clear i hT;go_wp2;go_ret2;exact⟨_,rfl,o,A.mono (Zba c.size)⟩
 ·have l:Hid (R=[]):=by show _=_;rw[←x.out];unfold Zjq;rw[if_neg (by rw[m.out];exact z)]
  clear t f;go_wp2;go_ret2;exact⟨_,rfl,g,by rw[l.out];exact RVec.nil _ _ _⟩
def hD(h:Hdr):List UInt8:=hdrD h.author h.round h.batches h.parents
def hF(h:Hdr):Int:=Zb5 h.author h.round h.batches h.parents
def cF(c:Crt):Int:=Zhk c.hdr.author c.hdr.round c.hdr.batches c.hdr.parents c.voters
theorem Zym{c:Crt}(h:cF c=0):hF c.hdr=0:=by
 unfold cF Zhk at h;unfold hF;split at h
 ·rename_i a;exact absurd h a
 ·rename_i a;exact Classical.not_not.1 a
theorem Zd1{f:FuncId}{fn:Func}(a : P.funcs[f]? = some fn)(hn : (fn.name == "runtime.NumGoroutine") = false){c:Code}(b : fn.body = some c) : ∀ args w, (callFunc f args).run P w = .ok (.enter f args) w := enters_of a hn b
theorem atFn_any(d x:Value)(y ds:List UInt8)(g:Nat)(w:World)(b:w.cell? ⟨g,0,none⟩=some x)(hd:Zan w.cell? d y)(a:Zan w.cell? x ds) :
 Calls prog 231 (#[d]++#[.pointer (some ⟨g,0,none⟩)]) w fun e w'=>e=.returned (.bool (y==ds))∧Below w.heap.size w w':=by
 show Calls prog 231 #[d,.pointer (some ⟨g,0,none⟩)] w _;go_enter func231,ntmps231;go_wp2_with fail;refine(Zb7 _ _ y ds _ hd a).mono ?_;rintro e w' ⟨rfl,rfl⟩;go_wp2;go_ret;exact⟨rfl,Zm _ _⟩
theorem at_any(vl:Value)(l:List (List UInt8))(vd:Value)(d:List UInt8)(w:World)(o:RDigs w.cell? vl l)(hd:Zan w.cell? vd d) :
 Calls prog 208 #[vl,vd] w fun e w'=>e=.returned (.int .i64 (Zex l d))∧Below w.heap.size w w':=by
 obtain⟨A,c,rfl,f⟩:=id o;obtain⟨B,c',rfl,b⟩:=id hd;clear f b;have a:=Zac w (.cells #[.slice B d.length c'] 53);have g:=hd.mono (Zaa a);have k:=o.mono Ze (Zaa a);have j:=(Blk.new w 53 #[.slice B d.length c']).cell 0;go_enter func208,ntmps208;go_wp2_with fail;refine(Zh1 231 #[.pointer (some ⟨w.heap.size,0,none⟩)] (·==d) (Zd1 func231 (by kernel_rfl) rfl) _ l _ k (fun W x y p q=>atFn_any x _ y d _ W (Zaa p _ _ j) q (g.mono (Zaa p)))).mono ?_;rintro e w1 ⟨rfl,n⟩;have m:=a.trans (n.mono a.size);have e1:idxI (·==d) l=Zex l d:=rfl;rw[e1];obtain⟨i,hi⟩:∃i,Hid (Zex l d=i):=⟨_,rfl⟩;clear g k j hd o;go_wp2;go_ret;exact⟨rfl,m⟩
theorem Zrh(cs:List Value)(x:Crt)(a r:Int)(vb vp:Value)(g:Nat)(w:World)(d:Blk w g 76 #[.int .i64 a,.int .i64 r,vb,vp])(l:RCrt w.cell? cs x) :
 Calls prog 209 (#[.agg cs.toArray]++#[.pointer (some ⟨g,0,none⟩)]) w fun e w'=>e=.returned (.bool (Zez a r x))∧Below w.heap.size w w':=by
 obtain⟨ub,up,uv,rfl,_,_,_⟩:=l;show Calls prog 209 #[.agg #[.int .i64 x.hdr.author,.int .i64 x.hdr.round,ub,up,uv],.pointer (some ⟨g,0,none⟩)] w _;have b:=Zac w (.cells #[.int .i64 x.hdr.author,.int .i64 x.hdr.round,ub,up,uv] 79);have k:=d.kept b;have g0:=k.cell 0;have g1:=k.cell 1;simp at g0 g1;clear k d;have c:∀q,(x.hdr.author==a&&x.hdr.round==r)=q→Hid (Zez a r x=q):=fun q h=>h
 generalize x.hdr.author=x0 at g0 c b g1⊢;generalize x.hdr.round=y0 at g0 c b g1⊢
 by_cases i:x0=a
 ·by_cases j:y0=r
  ·have f:=c true (by simp[i,j]);clear c;subst i j;go_enter func209,ntmps209;go_wp2;go_ret;exact⟨Zao f.out.symm,b⟩
  ·have f:=c false (by simp[j]);clear c;subst i;go_enter func209,ntmps209;go_wp2;go_ret;exact⟨Zao (by rw[f.out];simp[j]),b⟩
 ·have f:=c false (by simp[i]);clear c;go_enter func209,ntmps209;go_wp2;go_ret;exact⟨Zao f.out.symm,b⟩
theorem Ziy(vl:Value)(l:List Crt)(h:Hdr)(vb vp:Value)(w:World)(j:RCrts w.cell? vl l) :
 Calls prog 167 #[vl,.agg #[.int .i64 h.author,.int .i64 h.round,vb,vp]] w fun e w'=>e=.returned (.bool (Zif l h))∧Below w.heap.size w w':=by
 obtain⟨A,c,rfl,b⟩:=id j;clear b;have a:=Zac w (.cells #[.int .i64 h.author,.int .i64 h.round,vb,vp] 76);have d:=j.mono RCrt.mono (Zaa a);have k:=Blk.new w 76 #[.int .i64 h.author,.int .i64 h.round,vb,vp];obtain⟨Z,g⟩:∃Z,Hid (Zif l h=Z):=⟨_,rfl⟩;rw[g.out];go_enter func167,ntmps167;go_wp2_with fail;refine(Zh2 209 #[.pointer (some ⟨w.heap.size,0,none⟩)] (Zez h.author h.round) (Zd1 func209 (by kernel_rfl) rfl) _ l _ d (fun W cs x n m=>Zrh cs x _ _ _ _ _ W (k.kept n) m)).mono ?_;rintro e w1 ⟨rfl,i⟩;have f:=a.trans (i.mono a.size);rw[show l.any (Zez h.author h.round)=Z from g.out];clear d k j g;go_wp2;go_ret;exact⟨rfl,f⟩
theorem Znw(c:Crt)(vb vp vv:Value)(w:World)(i:RDigs w.cell? vb c.hdr.batches)(hp:RDigs w.cell? vp c.hdr.parents)(hT:Tabs w.cell?) :
 Calls prog 207 #[.agg #[.int .i64 c.hdr.author,.int .i64 c.hdr.round,vb,vp,vv]] w fun e w'=>∃d,e=.returned d∧Below w.heap.size w w'∧Zan (View.from w'.cell? w.heap.size) d (Zjq c.hdr.author c.hdr.round c.hdr.batches c.hdr.parents):=by
 obtain⟨bA,bc,rfl,_⟩:=id i;obtain⟨pA,pc,rfl,_⟩:=id hp;obtain⟨R,g⟩:∃R,Hid (Zjq c.hdr.author c.hdr.round c.hdr.batches c.hdr.parents=R):=⟨_,rfl⟩;rw[g.out];go_enter func207,ntmps207;go_wp2_with fail;refine Za9 _ _ _ (fun W=>Calls prog _ _ W _) (fun W k f a=>?_);have q:=Zaa a;refine(Zby _ _ _ _ c.hdr.batches c.hdr.parents _ (i.mono Ze q) (hp.mono Ze q) (hT.mono q)).mono ?_;rintro e w1 ⟨d,rfl,b,j⟩;rw[g.out]at j;generalize Zb5 c.hdr.author c.hdr.round c.hdr.batches c.hdr.parents=E;clear k hT;go_wp2;go_ret;exact⟨_,rfl,a.trans (b.mono a.size),j.mono (Zba a.size)⟩
theorem Zlv{h:Hdr}(a:hF h=0):Zjq h.author h.round h.batches h.parents=hD h:=if_pos a
theorem Zbb{b':Nat}{g:Option Nat}(f:b'≤b)(d:∀k,g=some k→k<b):VLe (View.from h b) (View.from (View.but h g) b'):=fun a v e=>by
 unfold View.from at e⊢
 split at e
 ·cases e
 ·rename_i c
  rw[if_neg (by omega)]
  unfold View.but
  rw[if_neg (by intro h;have:=d _ h.symm;omega)]
  exact e
theorem Zsw(vl:Value)(l:List Crt)(w:World)(M:RCrts w.cell? vl l)(P:∀c∈l,hF c.hdr=0)(hT:Tabs w.cell?) :
 Calls prog 165 #[vl] w fun e w'=>∃v',e=.returned v'∧Below w.heap.size w w'∧OwnSl 1 (RFrom w.heap.size RDig) 53 w' w.heap.size v' (dsOf hD l):=by
 obtain⟨A,c,rfl,f⟩:=id M;clear f;obtain⟨_,S,O,D⟩:=M.at;have E:=Zb D;have U:=Zb P;clear D M P;go_enter func165,ntmps165;go_wp2
 go_loopw [3,5,8] (fun v _ i wr=>∃k:Nat,k≤l.length∧i=.int .i64 k∧OwnSl 1 (RFrom w.heap.size RDig) 53 wr w.heap.size v (dsOf hD (l.take k))∧Below w.heap.size w wr) (fun _ _ i _=>l.length-(intOf i).toNat)
 case atStart=>exact⟨0,Zf _,rfl,OwnSl.nil _ _ _ _ _,Zm _ _⟩
 case round =>
  obtain⟨k,Y,rfl,b,a⟩:=hrel;have o:=a.size
  by_cases q:k<l.length
  ·obtain⟨b0,o0,vb,vp,vv,rfl,q0,q1,q2,q3,q4,N,hp,h⟩:=E.out k q;obtain⟨bA,bc,rfl,H⟩:=id N;obtain⟨pA,pc,rfl,J⟩:=id hp;obtain⟨vA,vc,rfl,F⟩:=id h;clear H J F h;have c0:=Zaa a _ _ q0;have c1:=Zaa a _ _ q1;have c2:=Zaa a _ _ q2;have c3:=Zaa a _ _ q3;have c4:=Zaa a _ _ q4;have u:=N.mono Ze (Zaa a);have s:=hp.mono Ze (Zaa a);have p:=Zb (U.out l[k] (List.getElem_mem q));have K:=Zb (show dsOf hD (l.take (k+1))=dsOf hD (l.take k)++[hD l[k].hdr] by unfold dsOf;rw[Zn q,List.map_append,List.map_singleton]);have r:=Zb (show(dsOf hD (l.take k)).length=k by unfold dsOf;simp;omega);clear q0 q1 q2 q3 q4 N hp;generalize dsOf hD (l.take k)=L at b K r;generalize l[k]=x at c0 c1 c2 c3 c4 u s p K;go_wp2_with fail;refine Za9 _ _ _ (fun W=>Calls prog _ _ W _) (fun W X Q j=>?_);have qW:=Zaa j;have B:=a.trans (j.mono o);refine(Znw x _ _ _ _ (u.mono Ze qW) (s.mono Ze qW) (hT.mono (Zaa B))).mono ?_;rintro e w1 ⟨d,rfl,I,y⟩;rw[Zlv p.out]at y;have t:=j.trans (I.mono j.size);have y:=y.mono (Zba j.size);have m:=b.kept (RFrom.mono Ze) t;have z:Below w.heap.size w w1:=a.trans (t.mono o)
   have R:RFrom w.heap.size RDig (View.but w1.cell? u3.ownBlock) [d] (hD x.hdr) :=
    ⟨d,rfl,y.mono (Zbb o (fun g V=>(b.lt g V).2))⟩
   have G:=t.size;obtain⟨A',c',rfl,f⟩:=id y;clear f c0 c1 c2 c3 c4 u s y;go_wp2_with (at_builtin;go_loud (refine Zaz (n:=140737488355328) (RFrom.mono Ze) (hD x.hdr) [.slice A' (hD x.hdr).length c'] Ze2 _ _ rfl rfl rfl m z (Zg o G) rfl rfl rfl rfl R (Za _) (by rw[r.out];omega) (by rw[r.out];omega) ?_));intro v' w2 T C _;clear b m R;go_wp2;go_roundw
   case rel=>exact⟨k+1,by omega,by go_num,by rw[K.out];exact T,C⟩
   case measure=>simp[intOf];omega
  ·have:k=l.length:=by omega
   subst this;go_wp2;go_ret;exact⟨_,rfl,a,by simpa using b⟩
theorem Zp9(ds:List (List UInt8))(d:List UInt8):(Zex ds d= -1)∨∃k:Nat,k<ds.length∧Zex ds d=k:=by
 rcases Zfy (·==d) ds with ⟨h,_⟩|⟨k,a,h,_⟩
 ·exact .inl h
 ·exact .inr ⟨k,a,h⟩
theorem Zt4{ds:List (List UInt8)}{r:Int}{p:List UInt8}(h:Zex ds p= -1):Zdu l ds r p=false:=by
 unfold Zdu;rw[h]
 split<;>simp
theorem Zt3{ds:List (List UInt8)}{r:Int}{p:List UInt8}(a:k<l.length)(h:Zex ds p=k):Zdu l ds r p=(l[k].hdr.round != r-1):=by
 unfold Zdu;rw[h];simp[Zp a]
def Zkf(ds ps:List (List UInt8)):List (List UInt8):=ps.filter fun p=>decide (Zex ds p<0)
theorem Zu3(ds ps:List (List UInt8))(a:k<ps.length):Zkf ds (ps.take (k+1))=Zkf ds (ps.take k)++(if Zex ds ps[k]<0 then [ps[k]]else []):=by
 unfold Zkf;rw[Zn a,List.filter_append]
 congr 1
 by_cases h:Zex ds ps[k]<0<;>simp[h]
theorem Zxf(ds ps:List (List UInt8)):(Zkf ds ps).length≤ps.length:=List.length_filter_le _ _
theorem Zyv(l:List Crt)(ds ps:List (List UInt8))(r:Int)(a:k<ps.length):(ps.take (k+1)).any (Zdu l ds r)=((ps.take k).any (Zdu l ds r)||Zdu l ds r ps[k]):=by
 rw[Zn a,List.any_append];simp
theorem Zhz(vl vs:Value)(l:List Crt)(ds:List (List UInt8))(h:Hdr)(vb vp:Value)(w:World)(hl:RCrts w.cell? vl l)(hs:RDigs w.cell? vs ds)(hp:RDigs w.cell? vp h.parents)(N:ds.length≤l.length)(gb:1≤h.round)(gc:h.round≤1048576) :
 Calls prog 166 #[vl,vs,.agg #[.int .i64 h.author,.int .i64 h.round,vb,vp]] w fun e w'=>∃v,e=.returned (.tuple #[v,.bool (Zgt l ds h)])∧Below w.heap.size w w'∧OwnSl 1 (RFrom w.heap.size RDig) 53 w' w.heap.size v (Zgu ds h):=by
 obtain⟨A,c,rfl,hf⟩:=id hl;obtain⟨pA,pc,rfl,g0⟩:=id hp;obtain⟨_,D,gh,he⟩:=hl.at;obtain⟨_,ga,gf,M⟩:=hp.at;have hr:=Zb he;have h9:=Zb M;have Hs:=Zb hs;have h4:=Zb N;clear hl he hf g0 M hp hs N;rw[show Zgt l ds h=h.parents.any (Zdu l ds h.round) from rfl,show Zgu ds h=Zkf ds h.parents from rfl];generalize h.parents=P at *;generalize h.round=r at *;generalize h.author=au at *;have er:IntKind.i64.wrap (r-1)=r-1:=by rw[IntKind.wrap_i64];omega
 obtain⟨QW,h0⟩:∃q,Hid (P.any (Zdu l ds r)=q):=⟨_,rfl⟩;obtain⟨QN,h7⟩:∃q,Hid (Zkf ds P=q):=⟨_,rfl⟩;rw[h0.out,h7.out];go_enter func166,ntmps166;go_upto_region 1 with fail;refine Zo fun W ha hm X=>?_
 have K:=X.size;clear hm;have g3:=ha.cell 3;simp at g3;go_wp2
 go_loopw [6,7,14] (fun v q i wr=>∃k:Nat,k≤P.length∧i=.int .i64 k∧q=.bool ((P.take k).any (Zdu l ds r))∧OwnSl 1 (RFrom w.heap.size RDig) 53 wr W.heap.size v (Zkf ds (P.take k))∧Below W.heap.size W wr) (fun _ _ i _=>P.length-(intOf i).toNat)
 case atStart=>exact⟨0,Zf _,rfl,rfl,OwnSl.nil _ _ _ _ _,Zm _ _⟩
 case round =>
  clear g3;obtain⟨k,hk,rfl,rfl,f,I⟩:=hrel;have Q:=ha.kept I;have hz:=I.size;have z:=X.trans (I.mono K);obtain⟨q0,J⟩:∃q,Hid ((P.take k).any (Zdu l ds r)=q):=⟨_,rfl⟩;rw[J.out]
  by_cases S:k<P.length
  ·obtain⟨b0,o0,d,rfl,s0,hd⟩:=h9.out k S;have c0:=Zaa z _ _ s0;have G:=hd;have T:=hd.mono (Zaa z);have B:=Zb (Zu3 ds P S);have s:=Zb (Zyv l ds P r S);rw[J.out]at s;have Z:=Zp9 ds P[k];have u:Hid (Zex ds P[k]= -1→Zdu l ds r P[k]=false):=fun h=>Zt4 h
   have t:Hid (∀j (hj:j<l.length),Zex ds P[k]=j→Zdu l ds r P[k]=(l[j].hdr.round != r-1)):=fun j hj h=>Zt3 hj h
   have U:=Zb (show(Zkf ds (P.take k)).length≤k from Zg (Zxf _ _) (by simp;omega));have h8:P[k].length*1≤140737488355328:=hd.len;clear s0 hd;generalize Zkf ds (P.take k)=L at f B U;generalize Zdu l ds r P[k]=WP at u t s;generalize hX:P[k]=x at T Z u t B h8 G;clear hX;go_wp2_with fail;refine(at_any _ ds _ x _ (Hs.out.mono Ze (Zaa z)) T).mono ?_;rintro e w1 ⟨rfl,Y⟩;have p:=I.trans (Y.mono hz);have R:=Q.kept Y;have E:=X.trans (p.mono K);have b:=f.kept (RFrom.mono Ze) Y;have H:=p.size;clear c0 T Q f
   rcases Z with m|⟨j,hj,o⟩
   ·rw[m];have F:Hid ((P.take (k+1)).any (Zdu l ds r)=q0):=by show _=_;rw[s.out,u.out m];simp
    have D:Hid (Zkf ds (P.take (k+1))=L++[x]):=by show _=_;rw[B.out,m];simp
    have V:=G.mono (Zaa E);clear u t B s m G;obtain⟨dA,dc,rfl,hf⟩:=id V;clear hf;go_wp2_with fail;refine(Zcj _ x _ V).mono ?_;rintro e w2 ⟨d2,rfl,h5,o2⟩;have a:=b.kept (RFrom.mono Ze) h5;have O:Below W.heap.size W w2:=p.trans (h5.mono H)
    have hR:RFrom w.heap.size RDig (View.but w2.cell? u6.ownBlock) [d2] x :=
     ⟨d2,rfl,o2.reads_from h8 (Zg K H) (fun g hg=>(b.lt g hg).2)⟩
    have hv:=O.size;obtain⟨A',c',rfl⟩:=o2.form;clear V o2 b;go_wp2_with (at_builtin;go_loud (refine Zaz (n:=140737488355328) (RFrom.mono Ze) x [.slice A' x.length c'] Ze2 _ _ rfl rfl rfl a O hv rfl rfl rfl rfl hR (Za _) (by have:=U.out;omega) (by have:=U.out;omega) ?_));intro v' w3 ho hb _;clear a hR;go_wp2;go_roundw
    case rel=>exact⟨k+1,by omega,by go_num,by rw[F.out],by rw[D.out];exact ho,hb⟩
    case measure=>simp[intOf];omega
   ·have h3:j<l.length:=by have:=h4.out;omega
    rw[o];have hw:=t.out j h3 o;have D:Hid (Zkf ds (P.take (k+1))=L):=by show _=_;rw[B.out,o,if_neg (by omega),List.append_nil]
    obtain⟨lb,lo,ub,up,uv,rfl,s0,s1,_⟩:=hr.out j h3;have d1:=Zaa E _ _ s1;clear u t o s0 s1 B G;generalize l[j].hdr.round=y at hw d1
    by_cases hy:y=r-1
    ·have F:Hid ((P.take (k+1)).any (Zdu l ds r)=q0):=by show _=_;rw[s.out,hw];simp[hy]
     clear hw s;subst hy;go_wp2_with fail;refine Zr [] (.q 0 (.q 1 (.q 2 (.q 3 (.q 4 (.q 5 (.q 6 (.q 7 (.q 8 (.q 9 (.q 10 .nil))))))))))) fun W2 C=>?_
     have a:=b.kept (RFrom.mono Ze) C
     repeat((first|refine pq (h:=⟨_,fun w' C=>by(have h1:=Zaa C _ _ d1;have hq:=R.kept C;have h2:=hq.cell 1;simp at h2;go_simp;exact rfl),?_⟩)|refine Zq ?_);simp only[sx])
     refine Zai ?_;go_wp2;go_roundw
     case rel=>exact⟨k+1,by omega,by go_num,by rw[F.out],by rw[D.out];exact a,p.trans (C.mono H)⟩
     case measure=>simp[intOf];omega
    ·have F:Hid ((P.take (k+1)).any (Zdu l ds r)=true):=by show _=_;rw[s.out,hw];simp[hy]
     clear hw s;go_wp2_with fail;refine Zr [] (.q 0 (.q 1 (.q 2 (.q 3 (.q 4 (.q 5 (.q 6 (.q 7 (.q 8 (.q 9 (.q 10 .nil))))))))))) fun W2 C=>?_
     have a:=b.kept (RFrom.mono Ze) C
     repeat((first|refine pq (h:=⟨_,fun w' C=>by(have h1:=Zaa C _ _ d1;have hq:=R.kept C;have h2:=hq.cell 1;simp at h2;go_simp;exact rfl),?_⟩)|refine Zq ?_);simp only[sx])
     refine Zai ?_;go_wp2;go_roundw
     case rel=>exact⟨k+1,by omega,by go_num,by rw[F.out],by rw[D.out];exact a,p.trans (C.mono H)⟩
     case measure=>simp[intOf];omega
  ·have h6:k=P.length:=by omega
   have e1:q0=QW:=by rw[←J.out,h6,List.take_length,h0.out]
   have e2:Zkf ds (P.take k)=QN:=by rw[h6,List.take_length,h7.out]
   rw[e2]at f;have f:=f.base K;clear e2 J;subst e1;go_wp2;go_ret2;exact⟨_,rfl,z,f⟩
theorem badC_at(a:k<l.length):badC hD l k=(Zif (l.take k) l[k].hdr||decide (parF (l.take k) ((dsOf hD l).take k) l[k].hdr≠0)):=by
 unfold badC;rw[Zp a]
theorem parF_ne(l:List Crt)(ds:List (List UInt8))(h:Hdr):decide (parF l ds h≠0)=(Zgt l ds h||decide (0<(Zgu ds h).length)):=by
 unfold parF;cases Zgt l ds h
 ·simp only[Bool.false_eq_true,if_false,Bool.false_or]
  by_cases a:(Zgu ds h).length=0
  ·rw[if_pos a,a];decide
  ·rw[if_neg a];have:0<(Zgu ds h).length:=by omega
   simp[this]
 ·simp
theorem RSl.weak{R':View→List Value→α→Prop}(a:∀h cs x,R h cs x→R' h cs x)(m:RSl sz R bs h v xs):RSl sz R' bs h v xs:=by
 obtain⟨A,c,e,d,l,j,f,g⟩:=m;refine⟨A,c,e,d,l,j,f,fun hp=>?_⟩;obtain⟨b,o,ea,k⟩:=g hp;exact⟨b,o,ea,fun i hi=>by obtain⟨cs,k1,k2,k3⟩:=k i hi;exact⟨cs,k1,k2,a _ _ _ k3⟩⟩
theorem Zhd(l:List Crt):(dsOf hD l).length=l.length:=by unfold dsOf;simp
theorem dagF_big(h:400<l.length):dagF hD cF l=12:=by unfold dagF;rw[if_pos h]
theorem Zyc(h:¬400<l.length)(a:k<l.length)(b:cF l[k]≠0):dagF hD cF l=12:=by
 unfold dagF;rw[if_neg h,if_pos (List.any_eq_true.2 ⟨l[k],List.getElem_mem a,by simp[b]⟩)]
theorem Zyw(h:∀j (b:j<l.length),cF l[j]=0):∀c∈l,cF c=0:=fun c a=>by
 obtain⟨i,hi,rfl⟩:=List.getElem_of_mem a
 exact h i hi
theorem Zyb(h:¬400<l.length)(a:∀c∈l,cF c=0):dagF hD cF l=if (List.range l.length).any (badC hD l)then 12 else 0:=by
 unfold dagF;rw[if_neg h,if_neg];rw[Bool.not_eq_true,List.any_eq_false];intro c b;simp[a c b]
theorem Zfs{n:Nat}(c:o.guard=none)(f:o.op=.store t x y)(d:a.eval x=.pointer (some ⟨g,off,none⟩))(i:a.eval y=v)(hi:(P.info? t).map (·.size)=some n)(hn:v.cells.size=n)(m:Blk w g te cs)(b:off+n≤cs.size)(e:(v.cells.toList.all fun u=>u.oneCell')=true)(h:∀w',Blk w' g te (cs.toList.take off++(v.cells.toList++cs.toList.drop (off+n))).toArray→w.grownBy w' (some g)→wpList P ops Q rest (a.put o.dst undef) w'):wpList P ops Q (o::rest) a w :=
 wpList_plain c fun _ j=>Zau f d i hi hn m b e fun w' l k=>j _ _ (h w' l k)
theorem OwnSl.low(l:Mono R)(h:OwnSl sz (RFrom b R) e w b v xs)(k:w.grownBy w' (some g))(o:g<b):OwnSl sz (RFrom b R) e w' b v xs:=by
 obtain⟨css,j,n,m⟩:=h.own;have f:=j.lt;refine⟨css,j.kept k (.inr (fun e=>by have:=(f g e).1;omega)),n,fun i hi=>?_⟩;obtain⟨cs,q1,q2,q3⟩:=m i hi;refine⟨cs,q1,q2,l _ _ _ _ q3 (fun a u hu=>?_)⟩;unfold View.from at hu⊢;split at hu
 ·cases hu
 ·rename_i c;rw[if_neg c];unfold View.but at hu⊢;split at hu
  ·cases hu
  ·rename_i d;rw[if_neg d];exact k.cell hu (by intro e;injection e;omega)
theorem OwnSl.low_ne(h:OwnSl sz R e w b v xs)(a:g<b):some g≠v.ownBlock:=fun e=>by have:=(h.lt g e.symm).1;omega
theorem RFrom.weaken{b':Nat}(c:Mono R)(d:b'≤b){cs:List Value}{x:α}(a:RFrom b R h cs x):RFrom b' R h cs x:=c _ _ _ _ a (Zba d)
theorem OwnSl.baseR(c:Mono R){b':Nat}(h:OwnSl sz (RFrom b R) e w b v xs)(a:b'≤b):OwnSl sz (RFrom b' R) e w b' v xs:=by
 obtain⟨css,d,g,f⟩:=(h.base a).own;exact⟨css,d,g,fun i hi=>by obtain⟨cs,q1,q2,q3⟩:=f i hi;exact⟨cs,q1,q2,RFrom.weaken c a q3⟩⟩
def rndV(l:List Crt):Int:=if dagF hD cF l=0 then Zu1 l else 0
def digV(l:List Crt)(r:Int):List (List UInt8):=if dagF hD cF l=0 then dsOf hD (Zbu l r)else []
theorem Zbo{fn:Func}{p q u:Tmp}{n:Nat}{tmps:Array Value}(h:fn.results=#[.tmp q,.cell p t,.tmp u])(hp:tmps.getD p undef=.pointer (some ⟨g,0,none⟩))(a:(isAgg t).run P w=.ok true w)(hi:(P.info? t).map (·.size)=some n)(c:Blk w g te cur)(hn:cur.size=n) :
 (results fn tmps).run P w=.ok (.tuple #[tmps.getD q undef,.agg cur,tmps.getD u undef]) w:=by
 have:=Zde (P:=P) a hi c (o:=0) (by omega);rw[List.drop_zero,List.take_of_length_le (by simp[hn])]at this;have b:tmps[p]?.getD undef=.pointer (some ⟨g,0,none⟩):=by simpa using hp
 simp only[results,h];simp[Sem.run_bind,Result.andThen,b,asAddr,this]
def Zck(h:Hdr):Slot:=⟨h.author,h.round,hD h⟩
def Ze5(l:List Slot)(h:Hdr):Int:=if Zdd l≠0 then Zdd l else if hF h≠0 then hF h else if 0≤Zb4 l h.author h.round then(match l[(Zb4 l h.author h.round).toNat]? with|some s=>if s.digest==hD h then 0 else 7|none=>7)else if 400≤l.length then 6 else 0
def Zc6(l:List Slot)(h:Hdr):List Slot:=if Ze5 l h=0 then(if 0≤Zb4 l h.author h.round then l else l++[Zck h])else []
def Zcz(l:List Slot)(h:Hdr):Slot:=if Ze5 l h=0 then Zck h else⟨0,0,[]⟩
theorem Zwe{l:List Slot}(h:Zdd l=0):l.length≤400:=by
 unfold Zdd at h;split at h
 ·cases h
 ·omega
theorem Zp1(l:List Slot)(au ro:Int):Zb4 l au ro= -1∨∃k:Nat,∃_:k<l.length,Zb4 l au ro=k:=by
 unfold Zb4;split
 ·rename_i i h;exact .inr ⟨i,(List.findIdx?_eq_some_iff_getElem.1 h).1,rfl⟩
 ·exact .inl rfl
end Go.Proofs.YtbcpbnfojfiekaaGreatDoor
