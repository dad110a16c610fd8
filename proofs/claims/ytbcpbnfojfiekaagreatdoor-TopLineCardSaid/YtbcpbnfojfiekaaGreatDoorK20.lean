/- A part of what the last text stands on. -/
import Derived.Test.YtbcpbnfojfiekaaGreatDoorK10
namespace Go.Proofs.YtbcpbnfojfiekaaGreatDoor
open Go.ChangeShapes Go.WideShapes Go.ChangeAt Go.RowKit Go.Proofs.Tryz Qa Qb Qc
set_option linter.all false
set_option maxHeartbeats 20000000
set_option maxRecDepth 100000
variable{P:Program}{w w':World}{o:Oper}{v:Value}{A:Option Addr}{h:View}{e:TypeId}{k g sz bs b c:Nat}{α:Type}{xs:List α}{enc:α→Value}{R:View→List Value→α→Prop}
theorem Ze0{a b:World}{r r2:Option Nat}(h:w.grownBy a r)(c:a.grownBy b r2)(f:∀q,r2=some q→w.heap.size≤q):w.grownBy b r :=
 ⟨c.os.trans h.os,c.tape.trans h.tape,c.output.trans h.output,Zg h.size c.size,fun i hi d=>(c.block i (Nat.lt_of_lt_of_le hi h.size) (fun e=>by have:=f i e.symm;omega)).trans (h.block i hi d)⟩
structure RdS (w0 w:World) (g:Nat) (s:RS):Prop where
 blk:∃v,Blk w g 178 #[v,.bool s.2]∧Zan (View.but w0.cell? (some g)) v s.1
 grown:w0.grownBy w (some g)
 lt:g<w0.heap.size
theorem RdS.kept{w0:World}{s:RS}(h:RdS w0 w g s)(a:Below w.heap.size w w'):RdS w0 w' g s:=by
 obtain⟨v,c,b⟩:=h.blk;exact⟨⟨v,c.kept a,b⟩,Zae h.grown (Zal _ a),h.lt⟩
theorem RdS.step{w0:World}{r:Option Nat}{s:RS}(h:RdS w0 w g s)(b:w.grownBy w' r)(a:∀q,r=some q→w0.heap.size≤q):RdS w0 w' g s:=by
 obtain⟨v,d,c⟩:=h.blk;exact⟨⟨v,d.grown b (fun e=>by have:=a g e.symm;have:=h.lt;omega),c⟩,Ze0 h.grown b a,h.lt⟩
theorem RdS.size{w0:World}{s:RS}(h:RdS w0 w g s):w0.heap.size≤w.heap.size:=h.grown.size
theorem RVec.takeN{n:Nat}(p:RVec enc bs h (.slice A n c) xs)(d:k≤xs.length):RVec enc bs h (.slice A k c) (xs.take k):=by
 obtain⟨A',c',e,q,m,j,f,g⟩:=p;injection e with e1 e2 e3;subst e1 e2 e3;have a:(xs.take k).length=k:=by simp;omega
 refine⟨A,c,by rw[a],by omega,m,by rw[a];exact Zg (Nat.mul_le_mul_right _ d) j,f,fun hp=>?_⟩;obtain⟨b,o,ea,l⟩:=g (by omega);refine⟨b,o,ea,fun i hi=>?_⟩;rw[a]at hi;rw[l i (by omega),List.getElem_take]
theorem RVec.dropN{n:Nat}(p:RVec enc bs h (.slice A n c) xs){lo:Nat}(q:lo≤xs.length):RVec enc bs h (.slice (A.map fun x=>x.add lo) (xs.length-lo) (c-lo)) (xs.drop lo):=by
 obtain⟨A',c',e,r,m,j,f,g⟩:=p;injection e with e1 e2 e3;subst e1 e2 e3;have d:(xs.drop lo).length=xs.length-lo:=by simp
 refine⟨_,_,by rw[d],by omega,Zg (Nat.sub_le _ _) m,?_,?_,fun hp=>?_⟩
 ·rw[d];exact Zg (Nat.mul_le_mul_right _ (by omega)) j
 ·intro k;cases A with
  |none=>have:=f rfl;omega
  |some a=>simp at k
 ·obtain⟨b,o,ea,l⟩:=g (by omega);subst ea;refine⟨b,o+lo,by simp[Zbs],fun i hi=>?_⟩;rw[d]at hi;have:=l (lo+i) (by omega);rw[show o+lo+i=o+(lo+i) by omega,this];simp
theorem RVec.stubN(enc:α→Value)(bs:Nat)(h:View)(A:Option Addr){m:Nat}(a:m=0)(d:c=0)(b:xs.length=m):RVec enc bs h (.slice A m c) xs:=by
 subst a d;have:xs=[]:=List.eq_nil_of_length_eq_zero b;subst this;exact⟨A,0,rfl,Za _,Zf _,by simp,fun _=>rfl,fun h=>by simp at h⟩
theorem Zig(w0:World)(g n:Nat)(z:Int)(s:RS)(w:World)(M:z=n)(hn:n≤1000)(U:RdS w0 w g s) :
 Calls prog 103 #[.pointer (some ⟨g,0,none⟩),.int .i64 z] w fun e w'=>∃d,e=.returned d∧w.grownBy w' (some g)∧RdS w0 w' g (tkS n s)∧Zan (View.from w'.cell? w.heap.size) d (tkB n s):=by
 subst M;obtain⟨⟨v,r,i⟩,o,f⟩:=U;have B:=i.mono (Zrc o);obtain⟨l,sh⟩:=s;obtain⟨A,c,rfl,u,T,Q,_,_⟩:=id B;have u:l.length≤c:=u;have B:Zan (View.but w.cell? (some g)) (.slice A l.length c) l:=B;have i:Zan (View.but w0.cell? (some g)) (.slice A l.length c) l:=i;have r:Blk w g 178 #[.slice A l.length c,.bool sh]:=r;have L:=r.lt;have g0:=r.cell 0;have g1:=r.cell 1;simp at g0 g1;cases sh
 ·by_cases H:(l.length:Int)<n
  ·have e1:tkB n (l,false)=[]:=by unfold tkB;rw[if_pos (by simp;omega)]
   have e2:tkS n (l,false)=(l,true):=by unfold tkS;rw[if_pos (by simp;omega)]
   rw[e1,e2];clear e1 e2;go_enter func103,ntmps103;go_wp2_with (refine Zaj (n:=1) rfl rfl rfl rfl (by kernel_rfl) rfl r (by simp) rfl ?_);intro w1 a j;have a:Blk w1 g 178 #[.slice A l.length c,.bool true]:=a;clear g0 g1;go_wp2;go_ret;exact⟨_,rfl,j,⟨⟨_,a,i⟩,Zae o j,f⟩,RVec.nil _ _ _⟩
  ·have e1:tkB n (l,false)=l.take n:=by unfold tkB;rw[if_neg (by simp;omega)]
   have e2:tkS n (l,false)=(l.drop n,false):=by unfold tkS;rw[if_neg (by simp;omega)]
   rw[e1,e2];clear e1 e2;have y:n≤l.length:=by omega
   have I:(n:Int)≤(l.length:Int):=by omega
   have S:n≤c:=by omega
   have G:(n:Int)≤(c:Int):=by omega
   have K:(l.length:Int)≤(c:Int):=by omega
   obtain⟨P,hP⟩:∃P,Hid (l.take n=P):=⟨_,rfl⟩;obtain⟨D,hD⟩:∃D,Hid (l.drop n=D):=⟨_,rfl⟩;have t:P.length=n:=by rw[←hP.out];simp;omega
   have q:=Zb t;have F:Zan w.cell? (.slice A n c) P:=by rw[←hP.out];exact RVec.take (B.mono (View.but_le _ _)) y
   have C:Zan (View.but w0.cell? (some g)) (.slice (A.map fun x=>x.add n) (l.length-n) (c-n)) D:=by rw[←hD.out];exact i.dropN y
   have O:=Zb (show D.length=l.length-n by rw[←hD.out];simp);rw[hP.out,hD.out];clear t;go_enter func103,ntmps103;go_wp2_with fail;refine(Zcj _ P _ F).mono ?_;rintro e w1 ⟨d,rfl,p,o1⟩;have a:=r.kept p;have N:=p.size;have ro:=o1.reads_from (bs:=1) (b0:=w.heap.size) (by rw[q.out];omega) (Za _) (g:=some g) (by intro k e;injection e;omega);obtain⟨A1,c1,rfl⟩:=o1.form;rw[q.out]at ro;have ro1:=ro;clear g0 g1 o1;have g0:=a.cell 0;have g1:=a.cell 1;simp at g0 g1
   by_cases E:c=n
   ·subst E;have R:l.length=c:=by omega
    go_wp2_with (refine Zaj (n:=1) rfl rfl rfl rfl (by kernel_rfl) rfl a (by simp) rfl ?_);intro w2 b m
    have b:Blk w2 g 178 #[.slice A 0 0,.bool false]:=b;have h:=Zae (Zal (some g) p) m;clear g0 g1;go_wp2;go_ret;exact⟨_,rfl,h,⟨⟨_,b,RVec.stubN _ _ _ _ rfl rfl (by rw[O.out];omega)⟩,Zae o h,f⟩,by rw[q.out];exact ro.mono (Za0 _ (Zbn m))⟩
   ·have J:¬(c:Int)=(n:Int):=by omega
    go_wp2_with (refine Zaj (n:=1) rfl rfl rfl rfl (by kernel_rfl) rfl a (by simp) rfl ?_);intro w2 b m
    have b:Blk w2 g 178 #[.slice (A.map fun x=>x.add n) (l.length-n) (c-n),.bool false]:=b;have h:=Zae (Zal (some g) p) m;clear g0 g1;go_wp2;go_ret;exact⟨_,rfl,h,⟨⟨_,b,C⟩,Zae o h,f⟩,by rw[q.out];exact ro.mono (Za0 _ (Zbn m))⟩
 ·have e1:tkB n (l,true)=[]:=by unfold tkB;rw[if_pos (by simp)]
  have e2:tkS n (l,true)=(l,true):=by unfold tkS;rw[if_pos (by simp)]
  rw[e1,e2];clear e1 e2;go_enter func103,ntmps103;go_wp2_with (refine Zaj (n:=1) rfl rfl rfl rfl (by kernel_rfl) rfl r (by simp) rfl ?_);intro w1 a j;have a:Blk w1 g 178 #[.slice A l.length c,.bool true]:=a;clear g0 g1;go_wp2;go_ret;exact⟨_,rfl,j,⟨⟨_,a,i⟩,Zae o j,f⟩,RVec.nil _ _ _⟩
theorem or_256{v x:Nat}(c:v<65536)(b:x<256):bits .or .i64 ((v:Int)*256) (x:Int)=((v*256+x:Nat):Int):=by
 have e8:(2:Int)^8=256:=by decide
 have e62:(2:Int)^62=4611686018427387904:=by decide
 have h:=bits_join .i64 62 (by decide) (fun n a d=>by rw[IntKind.wrap_i64];omega) 8 ((v:Int)*256) x (by omega) (by rw[e8];omega) (by rw[e62];omega) (by omega) (by rw[e8];omega) (by rw[e62];omega);rw[h];omega
theorem number_any(w0:World)(g n:Nat)(z:Int)(s:RS)(w:World)(E:z=n)(hn:n≤3)(D:RdS w0 w g s) :
 Calls prog 100 #[.pointer (some ⟨g,0,none⟩),.int .i64 z] w fun e w'=>e=.returned (.int .i64 (nmV n s))∧w.grownBy w' (some g)∧RdS w0 w' g (tkS n s):=by
 subst E;have j:=D.lt;have l:=Zoc n s;obtain⟨P,hP⟩:∃P,Hid (tkB n s=P):=⟨_,rfl⟩;obtain⟨V,r⟩:∃V,Hid (nmV n s=V):=⟨_,rfl⟩;have t:Hid (beN P=V):=by show _=_;rw[←hP.out,←r.out];rfl
 rw[hP.out]at l;rw[r.out];have H:P.length≤3:=by omega
 clear l r;go_enter func100,ntmps100;go_wp2_with fail;refine(Zig w0 g n n s _ rfl (by omega) D).mono ?_;rintro e w1 ⟨d,rfl,q,B,p⟩;rw[hP.out]at p;have p:=p.mono (View.from_le _ _);obtain⟨A,c,rfl,F,_,_,_,f⟩:=id p
 have m:Hid (∀k (y:k<P.length),∃b o,A=some ⟨b,o,none⟩∧w1.cell? ⟨b,o+k,none⟩=some (.int .u8 P[k].toNat)):=fun k y=>by
  obtain⟨b,o,e,h⟩:=f (by omega);exact⟨b,o,e,h k y⟩
 clear f p D hP;go_wp2_with fail
 go_loopw [5,7,12] (fun v _ i wr=>∃k:Nat,k≤P.length∧i=.int .i64 k∧v=.int .i64 (beN (P.take k))∧Below w1.heap.size w1 wr) (fun _ _ i _=>P.length-(intOf i).toNat)
 case atStart=>exact⟨0,Zf _,rfl,rfl,Zm _ _⟩
 case round =>
  obtain⟨k,y,rfl,rfl,a⟩:=hrel
  by_cases j:k<P.length
  ·obtain⟨b0,o0,rfl,e0⟩:=m.out k j;have c0:=Zaa a _ _ e0;have J:=Zb (show beN (P.take (k+1))=beN (P.take k)*256+P[k].toNat by rw[Zn j,beN_snoc])
   have C:beN (P.take k)<65536:=by
    have L:=beN_lt (P.take k);have K:256^(P.take k).length≤256^2:=Nat.pow_le_pow_right (by decide) (by simp;omega);omega
   have G:=P[k].toNat_lt;generalize beN (P.take k)=v at *;generalize P[k].toNat=x at *;clear e0;have I:=Zb (or_256 C G);go_wp2;go_roundw
   case rel=>exact⟨k+1,by omega,by go_num,by rw[I.out,J.out],a⟩
   case measure=>simp[intOf];omega
  ·have u:k=P.length:=by omega
   rw[u,List.take_length,t.out];clear m;go_wp2;go_ret;exact⟨rfl,Zae q (Zal _ a),B.kept a⟩
theorem OwnSl.past(l:Mono R)(h:OwnSl sz (RFrom b R) e w b v xs)(k:w.grownBy w' (some g))(o:g<b):OwnSl sz (RFrom b R) e w' b v xs:=by
 obtain⟨css,j,n,m⟩:=h.own;have f:=j.lt;refine⟨css,j.kept k (.inr (fun e=>by have:=(f g e).1;omega)),n,fun i hi=>?_⟩;obtain⟨cs,q1,q2,q3⟩:=m i hi;refine⟨cs,q1,q2,l _ _ _ _ q3 (fun a u hu=>?_)⟩;unfold View.from at hu⊢;split at hu
 ·cases hu
 ·rename_i c;rw[if_neg c];unfold View.but at hu⊢;split at hu
  ·cases hu
  ·rename_i d;rw[if_neg d];exact k.cell hu (by intro e;injection e;omega)
theorem Zd6{b':Nat}(d:b'≤b):VLe (View.from h b) (View.from h b'):=fun a v e=>by
 unfold View.from at e⊢
 split at e
 ·cases e
 ·rename_i c
  rw[if_neg (by omega)]
  exact e
theorem Zbk(c:w.grownBy w' (some g))(a:g<b):VLe (View.from w.cell? b) (View.from w'.cell? b):=Zdf (Za _) (VLe.refl _) c a
theorem Zqv{b':Nat}{g:Option Nat}(f:b'≤b)(d:∀k,g=some k→k<b):VLe (View.from h b) (View.from (View.but h g) b'):=fun a v e=>by
 unfold View.from at e⊢
 split at e
 ·cases e
 ·rename_i c
  rw[if_neg (by omega)]
  unfold View.but
  rw[if_neg (by intro h;have:=d _ h.symm;omega)]
  exact e
theorem Zj2(w0:World)(g:Nat)(s:RS)(w:World)(L:RdS w0 w g s) :
 Calls prog 154 #[.pointer (some ⟨g,0,none⟩)] w fun e w'=>∃d,e=.returned d∧w.grownBy w' (some g)∧RdS w0 w' g (Zkh s).2∧RDigs (View.from w'.cell? w.heap.size) d (Zkh s).1:=by
 have h0:=L.lt;have h7:=L.size;obtain⟨M,K⟩:∃M,Hid (nmV 1 s=M):=⟨_,rfl⟩;have Q:M<256:=by rw[←K.out];exact Zqd 1 s
 obtain⟨R,V⟩:∃R,Hid (Zkh s=R):=⟨_,rfl⟩;have Z:Hid (it Zk8 M ([],tkS 1 s)=R):=by show _=_;rw[←V.out,←K.out];rfl
 rw[V.out];clear V;go_enter func154,ntmps154;go_wp2_with fail;refine(number_any w0 g 1 1 s w rfl (by decide) L).mono ?_;rintro e w1 ⟨rfl,D,H⟩;rw[K.out];have F:=D.size;generalize tkS 1 s=s1 at H Z;clear L K;go_wp2_with fail
 go_loopw [3,4] (fun v i wr=>∃(k:Nat) (z:Int) (p:List (List UInt8)×RS),i=.int .i64 z∧Hid (z=(M:Int)-k)∧Hid (k≤M)∧0≤z∧z≤255∧Hid (it Zk8 k ([],s1)=p)∧Hid (p.1.length≤k)∧OwnSl 1 (RFrom w1.heap.size RDig) 53 wr w1.heap.size v p.1∧RdS w0 wr g p.2∧w1.grownBy wr (some g)) (fun _ i _=>(intOf i).toNat)
 case atStart=>exact⟨0,(M:Int),([],s1),rfl,by show _=_;omega,Zf _,by omega,by omega,rfl,Zf _,OwnSl.nil _ _ _ _ _,H,Zal _ (Zm _ _)⟩
 case round =>
  obtain⟨k,z,p,rfl,O,j,ha,N,hp,o,a,r,B⟩:=hrel;obtain⟨acc,l,sh⟩:=p;obtain⟨vr,hB,_⟩:=r.blk;have g1c:=hB.cell 1;simp at g1c;have hc:=B.size;have E:=Zae D B;have done:(it Zk8 M ([],s1)=(acc,(l,sh)))→Hid (R=(acc,(l,sh))):=fun h=>by show _=_;rw[←Z.out,h]
  by_cases h9:0<z
  ·cases sh
   ·have hn:Hid (it Zk8 (k+1) ([],s1)=(acc++[tkB 32 (l,false)],tkS 32 (l,false))):=by
     show Zk8 (it Zk8 k ([],s1))=_;rw[hp.out];rfl
    obtain⟨T,hT⟩:∃T,Hid (tkB 32 (l,false)=T):=⟨_,rfl⟩;obtain⟨S,P⟩:∃S,Hid (tkS 32 (l,false)=S):=⟨_,rfl⟩;rw[hT.out,P.out]at hn;clear done hp;go_wp2_with fail;refine(Zig w0 g 32 32 (l,false) _ rfl (by decide) r).mono ?_;rintro e w2 ⟨d,rfl,y,x,t⟩;rw[P.out]at x;rw[hT.out]at t;have f:=a.lt;have m:=a.past Ze y (by omega);have b:RFrom w1.heap.size RDig (View.but w2.cell? u3.ownBlock) [d] T:=⟨d,rfl,t.mono (Zqv (by omega) (fun q G=>(f q G).2))⟩;have hb:=y.size;obtain⟨A',c',rfl,C⟩:=id t;clear C t hT P a g1c hB;have c:acc.length≤255:=by have h1:acc.length≤k:=o.out;have Y:k≤M:=j.out;omega
    have u:=Zb c;clear c;go_wp2_with (at_builtin;go_loud (refine Zaz (n:=140737488355328) (RFrom.mono Ze) T [.slice A' T.length c'] Ze2 _ _ rfl rfl rfl m (W:=w2) (Zm _ _) (by omega) rfl rfl rfl rfl b (Za _) (by have:=u.out;omega) (by have:=u.out;omega) ?_));intro v' w3 ho h5 J;have U:=x.step J (fun q G=>by have:=(f q G).1;omega);have I:w1.grownBy w3 (some g):=Ze0 (Zae B y) J (fun q G=>(f q G).1);obtain⟨z2,X⟩:∃z2,Hid (z-1=z2):=⟨_,rfl⟩;have h8:IntKind.i64.wrap (z-1)=z-1:=by rw[IntKind.wrap_i64];omega
    clear m b x;go_wp2;go_roundw
    case rel=>exact⟨k+1,z-1,(acc++[T],S),rfl,by show _=_;have:=O.out;omega,by show _≤_;have:=O.out;omega,by omega,by omega,hn,by show _≤_;have:=o.out;simp at this ⊢;omega,ho,U,I⟩
    case measure=>simp[intOf];omega
   ·have b:=done (by rw[Zoy j.out (by rw[hp.out];rfl),hp.out]);have c:acc.length≤255:=by have h1:acc.length≤k:=o.out;have Y:k≤M:=j.out;omega
    have A:=a.reads_from (bs:=24) Ze (by show acc.length*24≤_;omega);obtain⟨oA,oc,rfl⟩:=a.form;clear done hp;go_wp2;go_ret;exact⟨_,rfl,E,by rw[b.out];exact r,by rw[b.out];exact A.mono Ze (Zd6 F)⟩
  ·have b:=done (by rw[show M=k by have:=O.out;have:=j.out;omega,hp.out]);have c:acc.length≤255:=by have h1:acc.length≤k:=o.out;have Y:k≤M:=j.out;omega
   have A:=a.reads_from (bs:=24) Ze (by show acc.length*24≤_;omega);obtain⟨oA,oc,rfl⟩:=a.form;clear done hp;go_wp2;go_ret;exact⟨_,rfl,E,by rw[b.out];exact r,by rw[b.out];exact A.mono Ze (Zd6 F)⟩
theorem Zll(w0:World)(g:Nat)(s:RS)(w:World)(hs:RdS w0 w g s) :
 Calls prog 102 #[.pointer (some ⟨g,0,none⟩)] w fun e w'=>∃vb vp,e=.returned (.agg #[.int .i64 (hdrR s).1.author,.int .i64 (hdrR s).1.round,vb,vp])∧w.grownBy w' (some g)∧RdS w0 w' g (hdrR s).2 ∧
  RDigs (View.from w'.cell? w.heap.size) vb (hdrR s).1.batches∧RDigs (View.from w'.cell? w.heap.size) vp (hdrR s).1.parents:=by
 have he:=hs.lt;have hh:=hs.size;obtain⟨R,hR⟩:∃R,Hid (hdrR s=R):=⟨_,rfl⟩;obtain⟨V1,X⟩:∃V,Hid (nmV 1 s=V):=⟨_,rfl⟩;obtain⟨S1,h0⟩:∃S,Hid (tkS 1 s=S):=⟨_,rfl⟩;obtain⟨V2,H⟩:∃V,Hid (nmV 3 S1=V):=⟨_,rfl⟩;obtain⟨S2,L⟩:∃S,Hid (tkS 3 S1=S):=⟨_,rfl⟩;obtain⟨⟨D1,S3⟩,B⟩:∃p,Hid (Zkh S2=p):=⟨_,rfl⟩;obtain⟨⟨D2,S4⟩,M⟩:∃p,Hid (Zkh S3=p):=⟨_,rfl⟩
 have HR:Hid (R=(⟨V1,V2,D1,D2⟩,S4)):=by
  show _=_;rw[←hR.out];unfold hdrR;rw[h0.out,L.out,B.out,M.out,X.out,H.out]
 rw[hR.out];clear hR;go_enter func102,ntmps102;go_upto_region 1 with fail;refine Zo fun W hk N J=>?_
 have ho:w.heap.size+1≤W.heap.size:=by omega
 clear N;go_wp2_with fail;refine(number_any w0 g 1 1 s W rfl (by decide) (hs.kept J)).mono ?_;rintro e w1 ⟨rfl,r,x⟩;rw[X.out];rw[h0.out]at x;have h3:=hk.grown r (by simp;omega);have hj:=r.size;go_wp2_with fail;refine(number_any w0 g 3 3 S1 w1 rfl (by decide) x).mono ?_;rintro e w2 ⟨rfl,u,t⟩;rw[H.out];rw[L.out]at t;have I:=h3.grown u (by simp;omega);have hp:=u.size;have P:w.grownBy w2 (some g):=Zae (Zae (Zal _ J) r) u;clear hs x hk h3;go_upto_region 2 with fail;refine Zo fun W3 hX h9 z=>?_
 have hr:w2.heap.size+1≤W3.heap.size:=by omega
 clear h9;have Y:=I.kept z;have F:w.grownBy W3 (some g):=Zae P (Zal _ z);go_wp2_with fail;refine(Zj2 w0 g S2 W3 (t.kept z)).mono ?_;rintro e w4 ⟨d1,rfl,k,y,i⟩;rw[B.out]at y i;have O:=hX.grown k (by simp;omega);have G:=Y.grown k (by simp;omega);have hn:=k.size;have h2:=Zae F k;obtain⟨A1,c1,rfl,hf⟩:=id i;clear hf t hX Y I;go_wp2_with (refine Zaj (n:=1) rfl rfl rfl rfl (by kernel_rfl) rfl O (by simp) rfl ?_);intro w5 m d;have m:Blk w5 w2.heap.size 76 #[.int .i64 V1,.int .i64 V2,.slice A1 D1.length c1,.slice none 0 0]:=m;have h1:=y.step d (fun q a=>by injection a with a;omega);have U:=G.grown d (by simp;omega);have A:=i.mono Ze (Zbk d (by omega));have ht:=d.size;have C:w.grownBy w5 (some g):=Ze0 h2 d (fun q a=>by injection a with a;omega);clear y i O G;go_wp2_with fail;refine(Zj2 w0 g S3 w5 h1).mono ?_;rintro e w6 ⟨d2,rfl,f,v,l⟩;rw[M.out]at v l;have E:=m.grown f (by simp;omega);have Z:=U.grown f (by simp;omega);have hv:=f.size;have o:=A.mono Ze (Zbk f (by omega));have T:=Zae C f;obtain⟨A2,c2,rfl,hf⟩:=id l;clear hf h1 m U A;go_wp2_with (refine Zaj (n:=1) rfl rfl rfl rfl (by kernel_rfl) rfl E (by simp) rfl ?_);intro w7 c b;have c:Blk w7 w2.heap.size 76 #[.int .i64 V1,.int .i64 V2,.slice A1 D1.length c1,.slice A2 D2.length c2]:=c;have h5:=v.step b (fun q a=>by injection a with a;omega);have hb:=Z.grown b (by simp;omega);have hm:=b.size;have K:=o.mono Ze (Zbk b (by omega));have h:=l.mono Ze (Zbk b (by omega));have D:w.grownBy w7 (some g):=Ze0 T b (fun q a=>by injection a with a;omega);have x0:=c.cell 0;have x1:=c.cell 1;have x2:=c.cell 2;have x3:=c.cell 3;simp at x0 x1 x2 x3;clear v E Z o l;go_wp2_with (refine Zj 4 hb ?_);intro w8 h6 j;have h7:=h5.step j (fun q a=>by injection a with a;omega);have Q:w.grownBy w8 (some g):=Ze0 D j (fun q a=>by injection a with a;omega)
 go_wp2;refine bodyPost_ret (Zay rfl rfl (by kernel_rfl) (by kernel_rfl) h6 rfl) rfl ?_;rw[HR.out];exact⟨.slice A1 D1.length c1,.slice A2 D2.length c2,rfl,Q,h7,(K.mono Ze (Zbk j (by omega))).mono Ze (Zd6 (by omega)),(h.mono Ze (Zbk j (by omega))).mono Ze (Zd6 (by omega))⟩
theorem Chg.new{G:List Nat}{a b c:World}{r:Option Nat}(h:Chg G a b)(d:b.grownBy c r)(f:∀q,r=some q→q∈G∨a.heap.size≤q):Chg G a c :=
 ⟨d.os.trans h.os,d.tape.trans h.tape,d.output.trans h.output,Zg h.size d.size,fun i hi hn=>(d.block i (Nat.lt_of_lt_of_le hi h.size) (fun e=>(f i e.symm).elim hn (fun h=>by omega))).trans (h.block i hi hn)⟩
theorem Zrp(w0:World)(g:Nat)(s:RS)(w:World)(hs:RdS w0 w g s) :
 Calls prog 101 #[.pointer (some ⟨g,0,none⟩)] w fun e w'=>∃vt,e=.returned (.agg #[.int .i64 (batR s).1.author,.int .i64 (batR s).1.number,vt])∧w.grownBy w' (some g)∧RdS w0 w' g (batR s).2∧RTexts (View.from w'.cell? w.heap.size) vt (batR s).1.txs:=by
 have s8:=hs.lt;have sq:=hs.size;obtain⟨R,hR⟩:∃R,Hid (batR s=R):=⟨_,rfl⟩;obtain⟨V1,h7⟩:∃V,Hid (nmV 1 s=V):=⟨_,rfl⟩;obtain⟨S1,ho⟩:∃S,Hid (tkS 1 s=S):=⟨_,rfl⟩;obtain⟨V2,hh⟩:∃V,Hid (nmV 3 S1=V):=⟨_,rfl⟩;obtain⟨S2,h5⟩:∃S,Hid (tkS 3 S1=S):=⟨_,rfl⟩;obtain⟨M,hM⟩:∃M,Hid (nmV 1 S2=M):=⟨_,rfl⟩;have gr:M<256:=by rw[←hM.out];exact Zqd 1 S2
 obtain⟨s1,D⟩:∃S,Hid (tkS 1 S2=S):=⟨_,rfl⟩;obtain⟨X,g1⟩:∃X,Hid (it Zhj M ([],s1)=X):=⟨_,rfl⟩
 have HR:Hid (R=(⟨V1,V2,X.1⟩,X.2)):=by
  show _=_;rw[←hR.out];unfold batR;rw[ho.out,h5.out,h7.out,hh.out,show txsR S2=X by rw[←g1.out,←hM.out,←D.out];rfl]
 rw[hR.out];clear hR;go_enter func101,ntmps101;go_upto_region 1 with fail;refine Zo fun W hk g7 gb=>?_
 have gs:w.heap.size+1≤W.heap.size:=by omega
 clear g7;go_wp2_with fail;refine(number_any w0 g 1 1 s W rfl (by decide) (hs.kept gb)).mono ?_;rintro e w1 ⟨rfl,h8,U⟩;rw[h7.out];rw[ho.out]at U;have g9:=hk.grown h8 (by simp;omega);have si:=h8.size;go_wp2_with fail;refine(number_any w0 g 3 3 S1 w1 rfl (by decide) U).mono ?_;rintro e w2 ⟨rfl,h9,hf⟩;rw[hh.out];rw[h5.out]at hf;have hw:=g9.grown h9 (by simp;omega);have sf:=h9.size;have hx:w.grownBy w2 (some g):=Zae (Zae (Zal _ gb) h8) h9;clear hs U hk g9 ho h7 hh h5;go_upto_region 2 with fail;refine Zo fun W3 hX s3 he=>?_
 have ss:w2.heap.size+1≤W3.heap.size:=by omega
 clear s3;have gd:=hw.kept he;have g2:w.grownBy W3 (some g):=Zae hx (Zal _ he);go_wp2_with fail;refine(number_any w0 g 1 1 S2 W3 rfl (by decide) (hf.kept he)).mono ?_;rintro e w4 ⟨rfl,L,g8⟩;rw[hM.out];rw[D.out]at g8;have gw:=hX.grown L (by simp;omega);have g3:=gd.grown L (by simp;omega);have sd:=L.size;have a:=Zae g2 L;clear hf hX gd hw hM D;go_wp2_with fail
 go_loopw [4] (fun i wr=>∃(k:Nat) (z:Int) (p:List ByteArray×RS) (v:Value),i=.int .i64 z∧Hid (z=(M:Int)-k)∧Hid (k≤M)∧0≤z∧z≤255∧Hid (it Zhj k ([],s1)=p)∧Hid (p.1.length≤k)∧Blk wr w2.heap.size 82 #[.int .i64 V1,.int .i64 V2,v]∧OwnS wr w4.heap.size v p.1∧RdS w0 wr g p.2∧Chg [g,w2.heap.size] w4 wr) (fun i _=>(intOf i).toNat)
 case atStart=>exact⟨0,(M:Int),([],s1),_,rfl,by show _=_;omega,Zf _,by omega,by omega,rfl,Zf _,gw,OwnVec.nil _ _ _ _,g8,.of_below (Zm _ _) (Za _)⟩
 case round =>
  obtain⟨k,z,p,v,rfl,hz,A,sj,gq,hp,J,m,c,G,b⟩:=hrel;obtain⟨acc,l,sh⟩:=p;replace c:OwnS wr w4.heap.size v acc:=c;have done:(it Zhj M ([],s1)=(acc,(l,sh)))→Hid (X=(acc,(l,sh))):=fun h=>by show _=_;rw[←g1.out,h]
  have sp:=b;obtain⟨vr,hB,s2⟩:=G.blk;clear s2;have g1c:=hB.cell 1;simp at g1c;have sk:=b.size;have sr:w2.heap.size≠g:=by omega
  have hv:Hid (g<w4.heap.size):=by show _<_;omega
  by_cases sc:0<z
  ·cases sh
   ·have hn:Hid (it Zhj (k+1) ([],s1)=(acc++[bstr (tkB (nmV 1 (l,false)) (tkS 1 (l,false)))],tkS (nmV 1 (l,false)) (tkS 1 (l,false)))):=by
     show Zhj (it Zhj k ([],s1))=_;rw[hp.out];rfl
    obtain⟨N,hN⟩:∃N,Hid (nmV 1 (l,false)=N):=⟨_,rfl⟩;have s0:N<256:=by rw[←hN.out];exact Zqd 1 (l,false)
    obtain⟨Y,hY⟩:∃Y,Hid (tkS 1 (l,false)=Y):=⟨_,rfl⟩;rw[hN.out,hY.out]at hn;obtain⟨T,hT⟩:∃T,Hid (tkB N Y=T):=⟨_,rfl⟩;obtain⟨S,ht⟩:∃S,Hid (tkS N Y=S):=⟨_,rfl⟩;rw[hT.out,ht.out]at hn;have sn:T.length≤256:=by rw[←hT.out];have:=Zoc N Y;omega
    have r:acc.length≤255:=by have h1:acc.length≤k:=J.out;have h2:k≤M:=A.out;omega
    have O:=Zb r;clear done hp r;obtain⟨vA,vc,rfl⟩:=c.form;go_wp2_with fail;refine Zt (fun w'=>Below wr.heap.size wr w') (fun w'=>Blk w' w2.heap.size 82 #[.int .i64 V1,.int .i64 V2,.slice vA acc.length vc]) [9,10] (.q 0 (.q 1 (.q 2 (.q 3 (.l 4 (.l 5 (.l 6 (.l 7 (.l 8 (.qc 9 (.l 10 .nil))))))))))) ?_ ?_
    ·exact⟨Zad _,m.kept (Zad _)⟩
    intro W x E;have g0:=G.kept x;have hl:=c.kept x;have gs:=x.size;clear hB g1c
    repeat((first|refine pq (h:=⟨_,fun w' E=>by(have h0:=E.cell 0;have h1:=E.cell 1;have h2:=E.cell 2;simp at h0 h1 h2;go_simp;exact rfl),?_⟩)|refine Zq ?_);simp only[sx])
    refine Zd fun K o=>?_
    try simp only[sy]
    go_simp;refine(number_any w0 g 1 1 (l,false) _ rfl (by decide) g0).mono ?_;rintro e w5 ⟨rfl,F,gf⟩;rw[hN.out];rw[hY.out]at gf;have gh:=(m.kept x).grown F (by simp;omega);have hg:=hl.grown F hv.out;refine o.out _ _ (gh) fun E=>?_
    clear o K
    try simp only[sx]
    refine Zd fun K o=>?_
    try simp only[sy]
    go_simp;refine(Zig w0 g N N Y _ rfl (by omega) gf).mono ?_;rintro e w6 ⟨d,rfl,I,g4,h3⟩;rw[ht.out]at g4;rw[hT.out]at h3;have h4:=gh.grown I (by simp;omega);have hb:=hg.grown I hv.out;have s5:=Zd3 (h3.mono (View.from_le _ _));obtain⟨dA,dc,rfl,gn⟩:=id h3;clear gn;have so:=I.size;have sg:=F.size;refine o.out _ _ (h4) fun E=>?_
    clear o K
    try simp only[sx]
    refine Zd fun K o=>?_
    try simp only[sy]
    go_simp;refine o.out _ _ (h4) fun E=>?_
    clear o K
    try simp only[sx]
    refine Zd fun K o=>?_
    try simp only[sy]
    go_simp;have H:=Zac w6 (.cells #[.string (bstr T)] 9);have gz:(w6.alloc (.cells #[.string (bstr T)] 9)).cell? ⟨w6.heap.size,0,none⟩=some (encS (bstr T)):=(Blk.new w6 9 #[.string (bstr T)]).cell 0;have ga:=h4.kept H;have y:=hb.kept H;have gv:=g4.kept H;have P:wr.grownBy (w6.alloc (.cells #[.string (bstr T)] 9)) (some g):=Zae (Zae (Zae (Zal _ x) F) I) (Zal _ H);have sm:=P.size;refine o.out _ _ (ga) fun E=>?_
    clear o K
    try simp only[sx]
    refine Zd fun K o=>?_
    try simp only[sy]
    have g6:=y.own.lt;refine Zcp (n:=140737488355328) (ys:=[bstr T]) Zl0 Zir _ _ rfl rfl y (by simp;omega) rfl (RVec.one (bstr T) gz (by decide)) (by decide) (by have:=O.out;simp;omega) (by have:=O.out;simp;omega) (fun v8 w8 gc j hy=>?_);clear hy;have u:∀q,(Value.slice vA acc.length vc).ownBlock=some q→w4.heap.size≤q:=fun q f=>(g6 q f).1
    have hr:=ga.grown j (fun e=>by have:=u _ e.symm;omega);have B:=gv.step j (fun q f=>by have:=u q f;omega);obtain⟨v8A,v8c,rfl⟩:=gc.form;refine o.out _ _ (hr) fun E=>?_
    clear o K
    try simp only[sx]
    repeat(refine Zq ?_;simp only[sx])
    refine Zc fun K o=>?_
    try simp only[sy]
    refine Zau (n:=1) rfl rfl rfl (by kernel_rfl) rfl hr (by simp) rfl ?_;intro w9 Q hm;have Q:Blk w9 w2.heap.size 82 #[.int .i64 V1,.int .i64 V2,.slice v8A (acc++[bstr T]).length v8c]:=Q;have gp:=B.step hm (fun q f=>by injection f;omega);have gu:=gc.grown hm (by omega);have g5:Chg [g,w2.heap.size] w4 w9:=((b.new P (fun q f=>.inl (by injection f with f;subst f;simp))).new j (fun q f=>.inr (u q f))).new hm (fun q f=>.inl (by injection f with f;subst f;simp));have sl:IntKind.i64.wrap (z-1)=z-1:=by rw[IntKind.wrap_i64];omega
    refine o.out _ _ ?_;clear o K
    try simp only[sx]
    refine Zai ?_;go_wp2;go_roundw
    case rel=>exact⟨k+1,z-1,(acc++[bstr T],S),_,rfl,by show _=_;have:=hz.out;omega,by show _≤_;have:=hz.out;omega,by omega,by omega,hn,by show _≤_;have:=J.out;simp at this ⊢;omega,Q,gu,gp,g5⟩
    case measure=>simp[intOf];omega
   ·have hc:=done (by rw[Zoy A.out (by rw[hp.out];rfl),hp.out]);have r:acc.length≤255:=by have h1:acc.length≤k:=J.out;have h2:k≤M:=A.out;omega
    have hj:=c.from_ (bs:=16) (b0:=w4.heap.size) (by omega) (Za _);obtain⟨oA,oc,rfl⟩:=c.form;have ha:=g3.chg b (by simp;omega);have x0:=m.cell 0;have x1:=m.cell 1;have x2:=m.cell 2;simp at x0 x1 x2;have h6:w.grownBy wr (some g):=⟨b.os.trans a.os,b.tape.trans a.tape,b.output.trans a.output,Zg a.size b.size,fun i hi hn=>(b.block i (Nat.lt_of_lt_of_le hi a.size) (by simp;exact⟨fun e=>hn (by rw[e]),by omega⟩)).trans (a.block i hi hn)⟩;have gg:=a.size;clear done hp c b;go_wp2_with (refine Zj 3 ha ?_);intro w8 Z j;have B:=G.step j (fun q f=>by injection f with f;omega);have C:w.grownBy w8 (some g):=Ze0 h6 j (fun q f=>by injection f with f;omega);have t:=(hj.mono (Zbk j (by have:=a.size;omega))).mono (Zd6 (by have:=a.size;omega));go_wp2;refine bodyPost_ret (Zay rfl rfl (by kernel_rfl) (by kernel_rfl) Z rfl) rfl ?_;rw[HR.out,hc.out];exact⟨.slice oA acc.length oc,rfl,C,B,t⟩
  ·have hc:=done (by rw[show M=k by have:=hz.out;have:=A.out;omega,hp.out]);have r:acc.length≤255:=by have h1:acc.length≤k:=J.out;have h2:k≤M:=A.out;omega
   have hj:=c.from_ (bs:=16) (b0:=w4.heap.size) (by omega) (Za _);obtain⟨oA,oc,rfl⟩:=c.form;have ha:=g3.chg b (by simp;omega);have x0:=m.cell 0;have x1:=m.cell 1;have x2:=m.cell 2;simp at x0 x1 x2;have h6:w.grownBy wr (some g):=⟨b.os.trans a.os,b.tape.trans a.tape,b.output.trans a.output,Zg a.size b.size,fun i hi hn=>(b.block i (Nat.lt_of_lt_of_le hi a.size) (by simp;exact⟨fun e=>hn (by rw[e]),by omega⟩)).trans (a.block i hi hn)⟩;have gg:=a.size;clear done hp c b;go_wp2_with (refine Zj 3 ha ?_);intro w8 Z j;have B:=G.step j (fun q f=>by injection f with f;omega);have C:w.grownBy w8 (some g):=Ze0 h6 j (fun q f=>by injection f with f;omega);have t:=(hj.mono (Zbk j (by have:=a.size;omega))).mono (Zd6 (by have:=a.size;omega));go_wp2;refine bodyPost_ret (Zay rfl rfl (by kernel_rfl) (by kernel_rfl) Z rfl) rfl ?_;rw[HR.out,hc.out];exact⟨.slice oA acc.length oc,rfl,C,B,t⟩
theorem Zg7{ev:Operand→Value}(ty:TypeId)(x:Operand)(a:o.op=.load ty x)(b off:Nat)(c:ev x=.pointer (some ⟨b,off,none⟩))(cs:List Value)(d:TypeDesc)(e:w.rangeAt b off cs)(hu:P.underlying ty=some d)(hd:d.isRow=true)(hi:(P.info? ty).map (·.size)=some cs.length):(execOp ev o).run P w=.ok (.value (.agg cs.toArray)) w:=by
 unfold execOp;simp only[a,c,Instr.loadAt,Instr.sureAddr,Sem.run_bind,Sem.run_pure,Result.andThen_ok,run_loadVar_mid w b off ty cs d e hu hd hi]
end Go.Proofs.YtbcpbnfojfiekaaGreatDoor
