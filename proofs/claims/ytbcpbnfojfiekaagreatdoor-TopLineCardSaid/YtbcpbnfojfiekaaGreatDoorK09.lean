/- A part of what the last text stands on. -/
import Derived.Test.YtbcpbnfojfiekaaGreatDoorK07
import Derived.Test.YtbcpbnfojfiekaaGreatDoorK08
namespace Go.Proofs.YtbcpbnfojfiekaaGreatDoor
open Go.ChangeShapes Go.WideShapes Go.ChangeAt Go.RowKit Go.Proofs.Tryz Qa Qb Qc
set_option linter.all false
set_option maxHeartbeats 20000000
set_option maxRecDepth 100000
variable{P:Program}{w w' W wr:World}{a:Act}{o:Oper}{Q:Exit→Act→World→Prop}{K:Act→World→Prop}{v u:Value}{A:Option Addr}{h:View}{e t:TypeId}{k i g bs c:Nat}{α:Type}{xs:List α}{enc:α→Value}
def Zaq(n:Int):UInt8:=UInt8.ofNat (n%256).toNat
theorem Zaw(n:Int):IntKind.u8.wrap n=((Zaq n).toNat:Int):=by
 rw[IntKind.wrap_u8];unfold Zaq;rw[UInt8.toNat_ofNat'];omega
theorem byteI_mod(n:Int):Zaq (n%256)=Zaq n:=by unfold Zaq;rw[Int.emod_emod]
def Zca(n:Int):List UInt8:=[Zaq (n/65536),Zaq (n/256),Zaq n]
theorem Zpc(c:Blk w g t (xs.map enc).toArray)(a:xs.length≤140737488355328)(b:xs.length*bs≤140737488355328):RVec enc bs w.cell? (.slice (some ⟨g,0,none⟩) xs.length xs.length) xs :=
 ⟨_,_,rfl,Za _,Zbw a,b,(fun h=>by cases h),fun _=>⟨g,0,rfl,fun i hi=>by rw[Nat.zero_add,c.cell];simp[hi]⟩⟩
def Keeps(w w':World):Prop:=∀b T cs,T≠5→Blk w b T cs→Blk w' b T cs
theorem Keeps.trans{a b c:World}(h:Keeps a b)(k:Keeps b c):Keeps a c:=fun x T cs hT d=>k x T cs hT (h x T cs hT d)
theorem Zbq(h:Below w.heap.size w w'):Keeps w w':=fun _ _ _ _ a=>a.kept h
theorem Zcr(w:World)(o:Obj):Keeps w (w.alloc o):=Zbq (Zac _ _)
theorem Zat{B:Nat}{xs:List UInt8}(c:OwnB w B v xs)(d:w.grownBy w' v.ownBlock):Keeps w w':=fun b T cs hT a=>by
 refine a.grown d (fun e=>?_)
 rcases c.own.2 with ⟨rfl,_⟩|⟨g,cap,cur,rfl,_,f,_⟩
 ·cases e
 ·have e1:b=g:=by
   have:=e.symm
   simp[Value.ownBlock]at this
   exact this.symm
  subst e1
  unfold Blk at a
  rw[f]at a
  injection a with a
  injection a with _ a
  exact hT a.symm
theorem Zf3(v:Value)(n:Int)(xs:List UInt8)(B:Nat)(w:World)(d:OwnB w B v xs)(j:B≤w.heap.size)(m:0≤n)(hn:n≤140737488355328)(l:xs.length+3≤140737488355328) :
 Calls prog 45 #[v,.int .i64 n] w fun e w'=>∃v',e=.returned v'∧Below B w w'∧Keeps w w'∧OwnB w' B v' (xs++Zca n)∧w.grownBy w' v.ownBlock:=by
 obtain⟨A,c,rfl⟩:=d.form;have u0:=Zaw (n/65536);have u1:=Zaw (n/256);have u2:=Zaw n;have b:Hid (Zca n=[Zaq (n/65536),Zaq (n/256),Zaq n]):=rfl;generalize Zaq (n/65536)=U0 at u0 b;generalize Zaq (n/256)=U1 at u1 b;generalize Zaq n=U2 at u2 b;generalize Zca n=Wb at b⊢;go_enter func45,ntmps45
 go_wp2_with (at_builtin;first
  |(refine Za6 (n:=140737488355328) (W:=w) (ys:=[U0,U1,U2]) Za7 Zb0 _ _ rfl rfl rfl (d.alloc _) ((Zm B w).alloc j _) (Zar _ j) rfl (Zpc (xs:=[U0,U1,U2]) (Blk.new _ _ _) (by simp) (by simp)) (by decide) (by simp;omega) (by simp;omega) ?_))
 intro v1 w1 i g a;have k:=(Zcr w (.cells #[encB U0,encB U1,encB U2] 5)).trans (Zat (d.alloc _) a);have f:=Zae (World.grownBy_alloc w (.cells #[encB U0,encB U1,encB U2] 5) (Value.slice A xs.length c).ownBlock) a;clear a d;go_wp2;go_ret;exact⟨_,rfl,g,k,by rw[b.out];exact i,f⟩
def Zeg(l:List (List UInt8)):List UInt8:=Zaq l.length::l.flatten
theorem Zqx(l:List (List UInt8))(a:k<l.length):(l.take (k+1)).flatten=(l.take k).flatten++l[k]∧((l.take k).flatten).length+l[k].length≤l.flatten.length:=by
 have e:(l.take (k+1)).flatten=(l.take k).flatten++l[k]:=by
  rw[Zn a,List.flatten_append,List.flatten_singleton]
 refine⟨e,?_⟩;have b:l.flatten=(l.take (k+1)).flatten++(l.drop (k+1)).flatten:=by rw[←List.flatten_append,List.take_append_drop]
 rw[b,Zl,e,Zl];omega
theorem Zhq(w0:World)(v vl:Value)(xs:List UInt8)(l:List (List UInt8))(w:World)(b:Below w0.heap.size w0 w)(y:OwnB w w0.heap.size v xs)(h:RDigs w0.cell? vl l)(K:xs.length+1+l.flatten.length≤140737488355328) :
 Calls prog 77 #[v,vl] w fun e w'=>∃v',e=.returned v'∧Below w0.heap.size w0 w'∧Keeps w w'∧OwnB w' w0.heap.size v' (xs++Zeg l):=by
 obtain⟨oA,oc,rfl⟩:=y.form;obtain⟨A,c,rfl,_⟩:=id h;obtain⟨_,J,H,u⟩:=h.at;have z:=Zb u;clear u h;have m:=b.size;have e0:=Zaw l.length;have hD:Hid (Zeg l=Zaq l.length::l.flatten):=rfl;generalize Zaq l.length=U0 at e0 hD;generalize Zeg l=Db at hD⊢;go_enter func77,ntmps77
 go_wp2_with (at_builtin;first
  |(refine Za6 (n:=140737488355328) (W:=w0) (ys:=[U0]) Za7 Zb0 _ _ rfl rfl rfl (y.alloc _) (b.alloc m _) (Zar _ m) rfl (Zpc (xs:=[U0]) (Blk.new _ _ _) (by simp) (by simp)) (by decide) (by simp;omega) (by simp;omega) ?_))
 intro v1 w1 f s g;have x:=(Zcr w (.cells #[encB U0] 5)).trans (Zat (y.alloc _) g);clear g y;obtain⟨Y,E⟩:∃Y,Hid (xs++[U0]=Y):=⟨_,rfl⟩;have L:Y.length=xs.length+1:=by rw[←E.out];simp
 rw[E.out]at f;go_wp2
 go_loopw [0,15] (fun v i wr=>∃k:Nat,k≤l.length∧i=.int .i64 k∧OwnB wr w0.heap.size v (Y++(l.take k).flatten)∧Below w0.heap.size w0 wr∧Keeps w wr) (fun _ i _=>l.length-(intOf i).toNat)
 case atStart=>exact⟨0,Zf _,rfl,by simpa using f,s,x⟩
 case round =>
  clear f s x b m;obtain⟨k,M,rfl,a,b,t⟩:=hrel;have m:=b.size
  by_cases j:k<l.length
  ·obtain⟨b0,o0,d,rfl,q0,hd⟩:=z.out k j;have c0:=Zaa b _ _ q0;obtain⟨dA,dc,rfl,_⟩:=id hd;have I:=Zb (hd.mono (Zaa b));obtain⟨hn,o⟩:=Zqx l j;have G:=Zb hn;clear hd q0 hn;generalize (l.take k).flatten=Z at a G o;generalize l[k]=p at I G o c0;go_wp2_with (at_builtin;go_loud (refine Za6 (n:=140737488355328) (W:=w0) (ys:=p) Za7 Zb0 _ _ rfl rfl rfl a b m rfl I.out (by decide) (by simp;omega) (by simp;omega) ?_));intro v2 w2 F C r;have B:=t.trans (Zat a r);clear r a;go_wp2;go_roundw
   case rel=>exact⟨k+1,by omega,by go_num,by rw[G.out];simpa using F,C,B⟩
   case measure=>simp[intOf];omega
  ·have D:k=l.length:=by omega
   subst D;rw[List.take_length]at a;have q:OwnB wr w0.heap.size u0 (xs++Db):=by rw[hD.out];rw[←E.out,List.append_assoc]at a;exact a
   go_wp2;go_ret;exact⟨_,rfl,b,t,q⟩
theorem Zgn{base n:Nat}{vy:Value}{xs ys:List UInt8}(C:Zkm P t e 1)(s y:Operand)(p:o.op=.call {callee:=.builtin .append,args:=#[s,y],argTypes:=#[t,t] })(E:a.eval s=v)(d:OwnVec encB e wr base v xs)(k:Below base W wr)(b:base≤wr.heap.size)(B:a.eval y=vy)(w:Zan wr.cell? vy ys)(G:n≤140737488355328)(hn:xs.length+ys.length≤n)(h:∀v' w',OwnVec encB e w' base v' (xs++ys)→Below base W w'→wr.grownBy w' v.ownBlock→K (a.put o.dst v') w'):o.wp P a wr K Q:=by
 obtain⟨ht,i,z,hi,l,r,q,m⟩:=C;obtain⟨A,c,rfl,_⟩:=id w;obtain⟨_,_,_,D,F,f⟩:=w.src;refine Zf1 s y t p base e i z 1 1 ht hi l r q m (by decide) v xs.length _ E d.own A ys.length c (ys.map encB) B D F f (fun u hu=>by obtain⟨x,_,rfl⟩:=List.mem_map.1 hu;exact Zb0 x) (Zbw (Zg hn G)) (by omega) b (fun v' w' p j=>h v' w' ⟨?_⟩ (k.grown j b (fun g j=>(d.own.lt g j).1)) j);simpa using p
theorem Zpa(w:World)(u:UInt8):Zan (w.alloc (.cells #[.int .u8 u.toNat] 5)).cell? (.slice (some ⟨w.heap.size,0,none⟩) 1 1) [u]:=Zpc (enc:=encB) (bs:=1) (xs:=[u]) (Blk.new w 5 #[encB u]) (by simp) (by simp)
def Zcd(a r:Int)(b p:List (List UInt8)):List UInt8:=((Zaq a::Zca r)++Zeg b)++Zeg p
theorem Zf9(w0:World)(v:Value)(xs:List UInt8)(a r:Int)(vb vp:Value)(b p:List (List UInt8))(w:World)(d:Below w0.heap.size w0 w)(x:OwnB w w0.heap.size v xs)(B:0≤r)(C:r≤140737488355328)(I:RDigs w0.cell? vb b)(hp:RDigs w0.cell? vp p)(H:xs.length+6+b.flatten.length+p.flatten.length≤140737488355328) :
 Calls prog 44 #[v,.agg #[.int .i64 a,.int .i64 r,vb,vp]] w fun e w'=>∃v',e=.returned v'∧Below w0.heap.size w0 w'∧Keeps w w'∧OwnB w' w0.heap.size v' (xs++Zcd a r b p):=by
 obtain⟨oA,oc,rfl⟩:=x.form;have y:=d.size;have e0:=Zaw a;have hD:Hid (Zcd a r b p=((Zaq a::Zca r)++Zeg b)++Zeg p):=rfl;generalize Zaq a=U0 at e0 hD;generalize Zcd a r b p=Db at hD⊢;have A:(Zca r).length=3:=rfl;have z:(Zeg b).length=1+b.flatten.length:=by show(_::_).length=_;rw[Zu];omega
 generalize E:Zca r=Wr at A hD;generalize D:Zeg b=Bd at z hD;go_enter func44,ntmps44;go_wp2;refine Za9 _ _ _ (fun W=>(Code.region _ _ _).wp _ _ _ W) (fun W F G k=>?_);have t:Keeps w W:=Zbq k;have x:=x.kept k;have d:=d.trans (k.mono y);have y:=d.size;refine Zt (fun w'=>Below W.heap.size W w') (fun w'=>Blk w' w.heap.size 76 #[.int .i64 a,.int .i64 r,vb,vp]) [15] (.q 0 (.q 1 (.q 2 (.q 3 (.q 6 (.q 7 (.q 9 (.q 10 (.q 12 (.q 13 (.l 4 (.l 5 (.l 8 (.l 11 (.l 14 (.qc 15 .nil)))))))))))))))) ?_ ?_
 ·exact⟨Zad _,F⟩
 intro W1 o c;have x:=x.kept o;have t:=t.trans (Zbq o);have d:=d.trans (o.mono y);have y:=d.size;clear o F
 repeat((first|refine pq (h:=⟨_,fun w' c=>by(have g:=c.cell 0;have j:=c.cell 1;have i:=c.cell 2;have m:=c.cell 3;simp at g j i m;go_simp;exact rfl),?_⟩)|refine Zq ?_);simp only[sx])
 refine Zd fun K f=>?_
 try simp only[sy]
 go_simp;refine f.out _ _ (c.alloc _) fun c=>?_
 clear f K
 try simp only[sx]
 repeat((first|refine pq (h:=⟨_,fun w' c=>by(have g:=c.cell 0;have j:=c.cell 1;have i:=c.cell 2;have m:=c.cell 3;simp at g j i m;go_simp;exact rfl),?_⟩)|refine Zq ?_);simp only[sx])
 refine Zd fun K f=>?_
 try simp only[sy]
 have s:=Zpa W1 U0;have u:=x.alloc (.cells #[.int .u8 U0.toNat] 5);refine Zgn (n:=140737488355328) (W:=w0) (xs:=xs) (ys:=[U0]) (v:=.slice oA xs.length oc) (vy:=.slice (some ⟨W1.heap.size,0,none⟩) 1 1) Za7 _ _ rfl rfl u (d.alloc y _) (Zar _ y) rfl s (by decide) (by simp;omega) ?_;intro v1 w1 o1 b1 g1;have k0:=Zat u g1;have k1:=(Zcr W1 (.cells #[.int .u8 U0.toNat] 5)).trans k0;have z1:=b1.size;clear g1 u s;refine f.out _ _ (k0 _ _ _ (by decide) c) fun c=>?_
 clear f K
 try simp only[sx]
 repeat((first|refine pq (h:=⟨_,fun w' c=>by(have g:=c.cell 0;have j:=c.cell 1;have i:=c.cell 2;have m:=c.cell 3;simp at g j i m;go_simp;exact rfl),?_⟩)|refine Zq ?_);simp only[sx])
 refine Zd fun K f=>?_
 try simp only[sy]
 go_simp;refine(Zf3 v1 r (xs++[U0]) _ _ o1 z1 B C (by simp;omega)).mono ?_;rintro e w2 ⟨v2,rfl,b2,k2,o2,_⟩;rw[E]at o2;have b2:=b1.trans b2;clear o1 b1;refine f.out _ _ (k2 _ _ _ (by decide) c) fun c=>?_
 clear f K
 try simp only[sx]
 repeat((first|refine pq (h:=⟨_,fun w' c=>by(have g:=c.cell 0;have j:=c.cell 1;have i:=c.cell 2;have m:=c.cell 3;simp at g j i m;go_simp;exact rfl),?_⟩)|refine Zq ?_);simp only[sx])
 refine Zd fun K f=>?_
 try simp only[sy]
 go_simp;refine(Zhq w0 v2 vb _ b _ b2 o2 I (by simp only[Zl,Zu,List.length_nil];omega)).mono ?_;rintro e w3 ⟨v3,rfl,b3,k3,o3⟩;rw[D]at o3;clear o2 b2;refine f.out _ _ (k3 _ _ _ (by decide) c) fun c=>?_
 clear f K
 try simp only[sx]
 repeat((first|refine pq (h:=⟨_,fun w' c=>by(have g:=c.cell 0;have j:=c.cell 1;have i:=c.cell 2;have m:=c.cell 3;simp at g j i m;go_simp;exact rfl),?_⟩)|refine Zq ?_);simp only[sx])
 refine Zd fun K f=>?_
 try simp only[sy]
 go_simp;refine(Zhq w0 v3 vp _ p _ b3 o3 hp (by simp only[Zl,Zu,List.length_nil];omega)).mono ?_;rintro e w4 ⟨v4,rfl,b4,k4,o4⟩;clear o3 b3;refine f.out _ _ (k4 _ _ _ (by decide) c) fun c=>?_
 clear f K
 try simp only[sx]
 repeat((first|refine pq (h:=⟨_,fun w' c=>by(have g:=c.cell 0;have j:=c.cell 1;have i:=c.cell 2;have m:=c.cell 3;simp at g j i m;go_simp;exact rfl),?_⟩)|refine Zq ?_);simp only[sx])
 refine Zai ?_;go_wp2;go_ret;exact⟨_,rfl,b4,(((t.trans k1).trans k2).trans k3).trans k4,by rw[hD.out];simpa using o4⟩
theorem Zb3{base n:Nat}{xs:List UInt8}(u:UInt8)(G:Zkm P t e 1)(s y:Operand)(E:o.op=.call {callee:=.builtin .append,args:=#[s,y],argTypes:=#[t,t] })(H:a.eval s=v)(c:OwnVec encB e wr base v xs)(r:Below base W wr)(d:base≤wr.heap.size){gy:Nat}(F:a.eval y=.slice (some ⟨gy,0,none⟩) 1 1)(B:wr.cell? ⟨gy,0,none⟩=some (encB u))(C:n≤140737488355328)(hn:xs.length+1≤n)(h:∀v' w',OwnVec encB e w' base v' (xs++[u])→Below base W w'→wr.grownBy w' v.ownBlock→(v'.ownBlock=v.ownBlock∨v'.ownBlock=some wr.heap.size)→K (a.put o.dst v') w'):o.wp P a wr K Q:=by
 obtain⟨ht,i,z,hi,k,f,l,x⟩:=G
 have b:∀j u',[encB u][j]?=some u'→wr.cell? ((⟨gy,0,none⟩:Addr).add j)=some u':=fun j u' hu=>by
  cases j with
  |zero=>simp at hu;subst hu;rw[Zbs];exact B
  |succ j=>simp at hu
 have m:∀u'∈[encB u],u'.oneCell'=true:=fun u' hu=>by rw[Zv hu];rfl
 obtain⟨v',w',D,A,q⟩:=Zc3 (P:=P) wr base t o.type e i z 1 1 ht hi k f l x (by decide) v xs.length (xs.map encB) c.own (some ⟨gy,0,none⟩) 1 1 [encB u] rfl (fun h=>by cases h)
  (fun ad w=>by obtain rfl:=Option.some.inj w;exact b) m (Zbw (Zg hn C)) (by omega) d
 have p:=Zhh (P:=P) wr base t o.type e i z 1 1 ht hi k f l v xs.length (xs.map encB) c.own ⟨gy,0,none⟩ 1 1 [encB u] rfl b m (by decide) (Zg hn C) (by omega) D;unfold Oper.wp execOp;simp[E,resolve,invoke,builtin,H,F,D,Result.andThen,Oper.upon];refine h v' w' ⟨?_⟩ (r.grown q d (fun g q=>(c.own.lt g q).1)) q p;simpa using A
theorem Zdg(w:World)(u:UInt8)(R:World→Prop)(h:∀W,W.cell? ⟨w.heap.size,0,none⟩=some (encB u)→W.heap.size=w.heap.size+1→Below w.heap.size w W→R W):R (w.alloc (.cells #[.int .u8 u.toNat] 5)) :=
 h _ ((Blk.new w 5 #[encB u]).cell 0) (by simp) (Zac _ _)
theorem Zqe{B:Nat}{xs:List UInt8}(a:OwnB w B v xs):¬(some w.heap.size=v.ownBlock):=fun e=>by
 have:=(a.own.lt _ e.symm).2;omega
theorem ne_loc{n:Nat}{v':Value}(h:¬(some g=v.ownBlock))(a:v'.ownBlock=v.ownBlock∨v'.ownBlock=some n)(b:g<n):¬(some g=v'.ownBlock):=fun e=>by
 rcases a with a|a
 ·exact h (e.trans a)
 ·rw[a]at e;injection e with e;omega
def Zbg(l:List ByteArray):List UInt8:=(l.map fun s=>Zaq s.size::Zb9 s).flatten
def Zfn(a n:Int)(l:List ByteArray):List UInt8:=((Zaq a::Zca n)++[Zaq l.length])++Zbg l
theorem Zm9(l:List ByteArray)(a:k<l.length):Zbg (l.take (k+1))=Zbg (l.take k)++([Zaq l[k].size]++Zb9 l[k]):=by
 unfold Zbg;rw[Zn a,List.map_append,List.flatten_append,List.map_singleton,List.flatten_singleton];rfl
theorem texts_len(l:List ByteArray)(a:k<l.length):(Zbg (l.take k)).length+1+l[k].size≤(Zbg l).length:=by
 have b:Zbg l=Zbg (l.take (k+1))++Zbg (l.drop (k+1)):=by
  unfold Zbg;rw[←List.flatten_append,←List.map_append,List.take_append_drop]
 rw[b,Zm9 l a];simp only[Zl,Zu,List.length_nil,Zci];omega
theorem Zj5(w0:World)(v:Value)(xs:List UInt8)(a n:Int)(vl:Value)(l:List ByteArray)(w:World)(b:Below w0.heap.size w0 w)(f:OwnB w w0.heap.size v xs)(B:0≤n)(C:n≤140737488355328)(S:RTexts w0.cell? vl l)(T:xs.length+5+(Zbg l).length≤140737488355328) :
 Calls prog 43 #[v,.agg #[.int .i64 a,.int .i64 n,vl]] w fun e w'=>∃v',e=.returned v'∧Below w0.heap.size w0 w'∧Keeps w w'∧OwnB w' w0.heap.size v' (xs++Zfn a n l):=by
 obtain⟨oA,oc,rfl⟩:=f.form;obtain⟨A,c,rfl,Q,J⟩:=S.form;have N:=Zb J;clear J S;have m:=b.size;have e0:=Zaw a;have e1:=Zaw l.length;have hD:Hid (Zfn a n l=((Zaq a::Zca n)++[Zaq l.length])++Zbg l):=rfl;generalize Zaq a=U0 at e0 hD;generalize Zaq l.length=U1 at e1 hD;generalize Zfn a n l=Db at hD⊢;have O:(Zca n).length=3:=rfl;generalize D:Zca n=Wr at O hD;obtain⟨Y,F⟩:∃Y,Hid (xs++[U0]++Wr++[U1]=Y):=⟨_,rfl⟩;have U:Y.length=xs.length+5:=by rw[←F.out];simp only[Zl,Zu,List.length_nil];omega
 go_enter func43,ntmps43;go_upto_region 1 with fail
 refine Zo fun W L R s=>?_
 have d:Keeps w W:=Zbq s;have f:=f.kept s;have b:=b.trans (s.mono m);have m:=b.size
 go_cut [0] (fun v w'=>Blk w' w.heap.size 82 #[.int .i64 a,.int .i64 n,.slice A l.length c]∧Keeps w w'∧Below w0.heap.size w0 w'∧OwnB w' w0.heap.size v Y)
 case first =>
  refine Zt (fun w'=>Below W.heap.size W w') (fun w'=>Blk w' w.heap.size 82 #[.int .i64 a,.int .i64 n,.slice A l.length c]) [15] (.q 0 (.q 1 (.q 2 (.q 3 (.q 6 (.q 7 (.q 9 (.q 10 (.q 11 (.q 12 (.alt 4 (.alt 5 (.alt 8 (.l 13 (.l 14 (.qc 15 .nil))) 13 (.l 8 (.l 14 (.qc 15 .nil)))) 13 (.l 5 (.l 8 (.l 14 (.qc 15 .nil))))) 13 (.l 4 (.l 5 (.l 8 (.l 14 (.qc 15 .nil)))))))))))))))) ?_ ?_
  ·exact⟨Zad _,L⟩
  intro W1 y g;have f:=f.kept y;have d:=d.trans (Zbq y);have b:=b.trans (y.mono m);have m:=b.size;clear y L
  -- ORDERS
  repeat((first|refine pq (h:=⟨_,fun w' g=>by(have u:=g.cell 0;have z:=g.cell 1;have x:=g.cell 2;simp at u z x;go_simp;exact rfl),?_⟩)|refine Zq ?_);simp only[sx])
  refine Zcm ?_ ?_
  ·
   refine Zd fun K j=>?_
   try simp only[sy]
   go_simp;refine Zdg _ U0 (fun W=>K _ W) (fun wn cA zn bn=>?_);refine j.out _ _ (g.kept bn) fun g=>?_
   clear j K
   try simp only[sx]
   have f:=f.kept bn;have d:=d.trans (Zbq bn);have b:=b.trans (bn.mono m);have m:=b.size;have t:=Nat.lt_of_succ_le (Nat.le_of_eq zn.symm);clear bn zn;refine Zcm ?_ ?_
   ·
    refine Zd fun K j=>?_
    try simp only[sy]
    refine Zb3 (n:=140737488355328) (W:=w0) (xs:=xs) U0 Za7 _ _ rfl rfl f b m rfl cA (by decide) (by omega) (fun v1 wn on bn gn ln=>?_);refine j.out _ _ (Zat f gn _ _ _ (by decide) g) fun g=>?_
    clear j K
    try simp only[sx]
    have d:=d.trans (Zat f gn);have f:=on;have b:=bn;have m:=b.size;clear gn on bn ln cA;refine Zcm ?_ ?_
    ·
     refine Zd fun K j=>?_
     try simp only[sy]
     go_simp;refine(Zf3 v1 n (xs++[U0]) _ _ f m B C (by simp;omega)).mono ?_;rintro e wn ⟨v2,rfl,bn,kn,on,gn⟩;rw[D]at on;refine j.out _ _ (kn _ _ _ (by decide) g) fun g=>?_
     clear j K
     try simp only[sx]
     have d:=d.trans kn;have b:=b.trans bn;have m:=b.size;have f:=on;clear gn on bn kn;refine Zd fun K j=>?_
     try simp only[sy]
     go_simp;refine Zdg _ U1 (fun W=>K _ W) (fun wn cD zn bn=>?_);refine j.out _ _ (g.kept bn) fun g=>?_
     clear j K
     try simp only[sx]
     have o:=Zqe f;have f:=f.kept bn;have d:=d.trans (Zbq bn);have b:=b.trans (bn.mono m);have m:=b.size;have t:=Nat.lt_of_succ_le (Nat.le_of_eq zn.symm);clear bn zn;refine Zd fun K j=>?_
     try simp only[sy]
     refine Zb3 (n:=140737488355328) (W:=w0) (xs:=xs++[U0]++Wr) U1 Za7 _ _ rfl rfl f b m rfl cD (by decide) (by simp only[Zl,Zu,List.length_nil];omega) (fun v3 wn on bn gn ln=>?_);refine j.out _ _ (Zat f gn _ _ _ (by decide) g) fun g=>?_
     clear j K
     try simp only[sx]
     have d:=d.trans (Zat f gn)
     repeat((first|refine pq (h:=⟨_,fun w' g=>by(have u:=g.cell 0;have z:=g.cell 1;have x:=g.cell 2;simp at u z x;go_simp;exact rfl),?_⟩)|refine Zq ?_);simp only[sx])
     refine Zai ?_;go_wp2;go_meet;exact⟨g,d,bn,by rw[F.out]at on;exact on⟩
    ·
     refine Zd fun K j=>?_
     try simp only[sy]
     go_simp;refine Zdg _ U1 (fun W=>K _ W) (fun wn cD zn bn=>?_);refine j.out _ _ (g.kept bn) fun g=>?_
     clear j K
     try simp only[sx]
     have o:=Zqe f;have f:=f.kept bn;have d:=d.trans (Zbq bn);have b:=b.trans (bn.mono m);have m:=b.size;have t:=Nat.lt_of_succ_le (Nat.le_of_eq zn.symm);clear bn zn;refine Zd fun K j=>?_
     try simp only[sy]
     go_simp;refine(Zf3 v1 n (xs++[U0]) _ _ f m B C (by simp;omega)).mono ?_;rintro e wn ⟨v2,rfl,bn,kn,on,gn⟩;rw[D]at on;refine j.out _ _ (kn _ _ _ (by decide) g) fun g=>?_
     clear j K
     try simp only[sx]
     have d:=d.trans kn;have b:=b.trans bn;have m:=b.size;have cD:=gn.cell cD o;have f:=on;clear gn on bn kn;refine Zd fun K j=>?_
     try simp only[sy]
     refine Zb3 (n:=140737488355328) (W:=w0) (xs:=xs++[U0]++Wr) U1 Za7 _ _ rfl rfl f b m rfl cD (by decide) (by simp only[Zl,Zu,List.length_nil];omega) (fun v3 wn on bn gn ln=>?_);refine j.out _ _ (Zat f gn _ _ _ (by decide) g) fun g=>?_
     clear j K
     try simp only[sx]
     have d:=d.trans (Zat f gn)
     repeat((first|refine pq (h:=⟨_,fun w' g=>by(have u:=g.cell 0;have z:=g.cell 1;have x:=g.cell 2;simp at u z x;go_simp;exact rfl),?_⟩)|refine Zq ?_);simp only[sx])
     refine Zai ?_;go_wp2;go_meet;exact⟨g,d,bn,by rw[F.out]at on;exact on⟩
   ·
    refine Zd fun K j=>?_
    try simp only[sy]
    go_simp;refine Zdg _ U1 (fun W=>K _ W) (fun wn cD zn bn=>?_);refine j.out _ _ (g.kept bn) fun g=>?_
    clear j K
    try simp only[sx]
    have cA:=Zaa bn _ _ cA;have o:=Zqe f;have f:=f.kept bn;have d:=d.trans (Zbq bn);have b:=b.trans (bn.mono m);have m:=b.size;have t:=Nat.lt_of_succ_le (Nat.le_of_eq zn.symm);clear bn zn;refine Zd fun K j=>?_
    try simp only[sy]
    refine Zb3 (n:=140737488355328) (W:=w0) (xs:=xs) U0 Za7 _ _ rfl rfl f b m rfl cA (by decide) (by omega) (fun v1 wn on bn gn ln=>?_);refine j.out _ _ (Zat f gn _ _ _ (by decide) g) fun g=>?_
    clear j K
    try simp only[sx]
    have d:=d.trans (Zat f gn);have cD:=gn.cell cD o;have o:=ne_loc o ln (by omega);have f:=on;have b:=bn;have m:=b.size;clear gn on bn ln cA;refine Zd fun K j=>?_
    try simp only[sy]
    go_simp;refine(Zf3 v1 n (xs++[U0]) _ _ f m B C (by simp;omega)).mono ?_;rintro e wn ⟨v2,rfl,bn,kn,on,gn⟩;rw[D]at on;refine j.out _ _ (kn _ _ _ (by decide) g) fun g=>?_
    clear j K
    try simp only[sx]
    have d:=d.trans kn;have b:=b.trans bn;have m:=b.size;have cD:=gn.cell cD o;have f:=on;clear gn on bn kn;refine Zd fun K j=>?_
    try simp only[sy]
    refine Zb3 (n:=140737488355328) (W:=w0) (xs:=xs++[U0]++Wr) U1 Za7 _ _ rfl rfl f b m rfl cD (by decide) (by simp only[Zl,Zu,List.length_nil];omega) (fun v3 wn on bn gn ln=>?_);refine j.out _ _ (Zat f gn _ _ _ (by decide) g) fun g=>?_
    clear j K
    try simp only[sx]
    have d:=d.trans (Zat f gn)
    repeat((first|refine pq (h:=⟨_,fun w' g=>by(have u:=g.cell 0;have z:=g.cell 1;have x:=g.cell 2;simp at u z x;go_simp;exact rfl),?_⟩)|refine Zq ?_);simp only[sx])
    refine Zai ?_;go_wp2;go_meet;exact⟨g,d,bn,by rw[F.out]at on;exact on⟩
  ·
   refine Zd fun K j=>?_
   try simp only[sy]
   go_simp;refine Zdg _ U1 (fun W=>K _ W) (fun wn cD zn bn=>?_);refine j.out _ _ (g.kept bn) fun g=>?_
   clear j K
   try simp only[sx]
   have o:=Zqe f;have f:=f.kept bn;have d:=d.trans (Zbq bn);have b:=b.trans (bn.mono m);have m:=b.size;have t:=Nat.lt_of_succ_le (Nat.le_of_eq zn.symm);clear bn zn;refine Zd fun K j=>?_
   try simp only[sy]
   go_simp;refine Zdg _ U0 (fun W=>K _ W) (fun wn cA zn bn=>?_);refine j.out _ _ (g.kept bn) fun g=>?_
   clear j K
   try simp only[sx]
   have cD:=Zaa bn _ _ cD;have f:=f.kept bn;have d:=d.trans (Zbq bn);have b:=b.trans (bn.mono m);have m:=b.size;have t:=Nat.lt_of_succ_le (Nat.le_of_eq zn.symm);clear bn zn;refine Zd fun K j=>?_
   try simp only[sy]
   refine Zb3 (n:=140737488355328) (W:=w0) (xs:=xs) U0 Za7 _ _ rfl rfl f b m rfl cA (by decide) (by omega) (fun v1 wn on bn gn ln=>?_);refine j.out _ _ (Zat f gn _ _ _ (by decide) g) fun g=>?_
   clear j K
   try simp only[sx]
   have d:=d.trans (Zat f gn);have cD:=gn.cell cD o;have o:=ne_loc o ln (by omega);have f:=on;have b:=bn;have m:=b.size;clear gn on bn ln cA;refine Zd fun K j=>?_
   try simp only[sy]
   go_simp;refine(Zf3 v1 n (xs++[U0]) _ _ f m B C (by simp;omega)).mono ?_;rintro e wn ⟨v2,rfl,bn,kn,on,gn⟩;rw[D]at on;refine j.out _ _ (kn _ _ _ (by decide) g) fun g=>?_
   clear j K
   try simp only[sx]
   have d:=d.trans kn;have b:=b.trans bn;have m:=b.size;have cD:=gn.cell cD o;have f:=on;clear gn on bn kn;refine Zd fun K j=>?_
   try simp only[sy]
   refine Zb3 (n:=140737488355328) (W:=w0) (xs:=xs++[U0]++Wr) U1 Za7 _ _ rfl rfl f b m rfl cD (by decide) (by simp only[Zl,Zu,List.length_nil];omega) (fun v3 wn on bn gn ln=>?_);refine j.out _ _ (Zat f gn _ _ _ (by decide) g) fun g=>?_
   clear j K
   try simp only[sx]
   have d:=d.trans (Zat f gn)
   repeat((first|refine pq (h:=⟨_,fun w' g=>by(have u:=g.cell 0;have z:=g.cell 1;have x:=g.cell 2;simp at u z x;go_simp;exact rfl),?_⟩)|refine Zq ?_);simp only[sx])
   refine Zai ?_;go_wp2;go_meet;exact⟨g,d,bn,by rw[F.out]at on;exact on⟩
  -- END ORDERS
 case rest =>
  clear f b m d;obtain⟨I,d,b,f⟩:=hcut;obtain⟨yA,yc,rfl⟩:=f.form;have c2:=I.cell 2;simp at c2;have c2:wc.cell? ⟨w.heap.size,2,none⟩=some (.slice A l.length c):=c2;clear I L s;go_wp2
  go_loopw [0,25] (fun v i wr=>∃k:Nat,k≤l.length∧i=.int .i64 k∧OwnB wr w0.heap.size v (Y++Zbg (l.take k))∧Below w0.heap.size w0 wr∧Keeps w wr) (fun _ i _=>l.length-(intOf i).toNat)
  case atStart=>exact⟨0,Zf _,rfl,by simpa[Zbg]using f,b,d⟩
  case round =>
   clear f b d c2;obtain⟨k,L,rfl,r,b,d⟩:=hrel;have m:=b.size
   by_cases E:k<l.length
   ·obtain⟨b0,o0,rfl,q0⟩:=N.out k E;have c0:=Zaa b _ _ q0;have G:=texts_len l E;have M:=Zb (Zm9 l E);have e2:=Zaw l[k].size;clear q0;generalize Zaq l[k].size=U2 at e2 M;generalize Zbg (l.take k)=Z at r M G;generalize l[k]=p at M G c0 e2
    go_wp2_with (at_builtin;first
     |(refine Za6 (n:=140737488355328) (W:=w0) (ys:=[U2]) Za7 Zb0 _ _ rfl rfl rfl (r.alloc _) (b.alloc m _) (Zar _ m) rfl (Zpc (xs:=[U2]) (Blk.new _ _ _) (by simp) (by simp)) (by decide) (by simp;omega) (by simp;omega) ?_))
    intro v1 w1 o1 b1 g1;have k1:=(Zcr wr (.cells #[encB U2] 5)).trans (Zat (r.alloc _) g1);have z1:=b1.size;clear g1 r;go_wp2_with (at_builtin;go_loud (refine Zft (n:=140737488355328) (W:=w0) p Za7 underlying9 _ _ rfl rfl rfl rfl o1 b1 z1 (by decide) (by simp only[Zl,Zu,List.length_nil];omega) ?_));intro v2 w2 o2 b2 g2;have k2:=(d.trans k1).trans (Zat o1 g2);clear g2 o1;go_wp2;go_roundw
    case rel=>exact⟨k+1,by omega,by go_num,by rw[M.out];simpa using o2,b2,k2⟩
    case measure=>simp[intOf];omega
   ·have P:k=l.length:=by omega
    subst P;rw[List.take_length]at r;have H:OwnB wr w0.heap.size u0 (xs++Db):=by rw[hD.out];rw[←F.out]at r;simpa using r
    go_wp2;go_ret;exact⟨_,rfl,b,d,H⟩
theorem Zn1(w:World)(o1 o2:Obj):Below w.heap.size w ((w.alloc o1).alloc o2):=((Zm _ _).alloc (Za _) _).alloc (Zar _ (Za _)) _
def Zb4(l:List Slot)(au ro:Int):Int:=match l.findIdx? (fun s=>s.author==au&&s.round==ro)with|some i=>i|none=> -1
theorem Zp0{l:List Slot}{au ro:Int}(b:k<l.length)(h:∀j (a:j<l.length),j<k→(l[j].author==au&&l[j].round==ro)=false)(hp:(l[k].author==au&&l[k].round==ro)=true):Zb4 l au ro=k:=by
 have:l.findIdx? (fun s=>s.author==au&&s.round==ro)=some k:=by
  rw[List.findIdx?_eq_some_iff_getElem];exact⟨b,hp,fun j a=>by simp[h j (by omega) a]⟩
 simp only[Zb4,this]
theorem Zrm{l:List Slot}{au ro:Int}(h:∀j (b:j<l.length),(l[j].author==au&&l[j].round==ro)=false):Zb4 l au ro= -1:=by
 have:l.findIdx? (fun s=>s.author==au&&s.round==ro)=none:=by
  rw[List.findIdx?_eq_none_iff];intro x a;obtain⟨i,hi,rfl⟩:=List.getElem_of_mem a;simp[h i hi]
 simp only[Zb4,this]
theorem Zvd(s:Slot)(d:Value)(au ro:Int)(b1 b2:Nat)(w:World)(a:w.cell? ⟨b1,0,none⟩=some (.int .i64 au))(b:w.cell? ⟨b2,0,none⟩=some (.int .i64 ro)) :
 Calls prog 230 #[.agg #[.int .i64 s.author,.int .i64 s.round,d],.pointer (some ⟨b1,0,none⟩),.pointer (some ⟨b2,0,none⟩)] w fun e w'=>e=.returned (.bool (s.author==au&&s.round==ro))∧Below w.heap.size w w':=by
 have g1:=World.block_lt_of_cell? w _ a;have g2:=World.block_lt_of_cell? w _ b;have k1:=Zhf a;have k2:=Zhf b;clear a b
 cases e1:(s.author==au)<;>cases e2:(s.round==ro)
 all_goals
  go_enter func230,ntmps230;go_wp2
  go_ret;exact⟨rfl,Zac _ _⟩
theorem Zo0(vl:Value)(l:List Slot)(au ro:Int)(b1 b2:Nat)(w:World)(p:RSlots w.cell? vl l)(s:w.cell? ⟨b1,0,none⟩=some (.int .i64 au))(t:w.cell? ⟨b2,0,none⟩=some (.int .i64 ro)) :
 Calls prog 229 #[vl,.func (.func 230) #[] #[.pointer (some ⟨b1,0,none⟩),.pointer (some ⟨b2,0,none⟩)]] w fun e w'=>e=.returned (.int .i64 (Zb4 l au ro))∧Below w.heap.size w w':=by
 obtain⟨A,c,rfl,_⟩:=id p;obtain⟨_,x,y,n⟩:=p.at;have r:=Zb n;have v:=Zb s;have z:=Zb t;clear p n s t;go_enter func229,ntmps229;go_wp2
 go_loopw [8] (fun i wr=>∃k:Nat,k≤l.length∧i=.int .i64 k∧Hid (∀j (m:j<l.length),j<k→(l[j].author==au&&l[j].round==ro)=false)∧Below w.heap.size w wr) (fun i _=>l.length-(intOf i).toNat)
 case atStart=>exact⟨0,Zf _,rfl,fun j _ m=>by omega,Zm _ _⟩
 case round =>
  obtain⟨k,h,rfl,f,a⟩:=hrel
  by_cases g:k<l.length
  ·obtain⟨b0,o0,d,rfl,q0,q1,q2,hd⟩:=r.out k g;have c0:=Zaa a _ _ q0;have c1:=Zaa a _ _ q1;have c2:=Zaa a _ _ q2;clear hd q0 q1 q2;go_wp2_with fail;refine(Zvd l[k] d au ro b1 b2 _ (Zaa a _ _ v.out) (Zaa a _ _ z.out)).mono ?_;rintro e w1 ⟨rfl,o⟩;have b:=a.trans (o.mono a.size);cases e1:(l[k].author==au&&l[k].round==ro)
   ·have q:=Zb e1;clear e1;go_wp2;go_roundw
    case rel=>exact⟨k+1,by omega,by go_num,fun j m u=>by
     by_cases e:j=k
     ·subst e;exact q.out
     ·exact f.out j m (by omega),b⟩
    case measure=>simp[intOf];omega
   ·have q:=Zb e1;clear e1;go_wp2;go_ret;exact⟨Zak (Zp0 g f.out q.out).symm,b⟩
  ·go_wp2;go_ret;exact⟨Zak (Zrm fun j m=>f.out j m (by omega)).symm,a⟩
theorem Ztp(vl:Value)(l:List Slot)(au ro:Int)(w:World)(b:RSlots w.cell? vl l) :
 Calls prog 206 #[vl,.int .i64 au,.int .i64 ro] w fun e w'=>e=.returned (.int .i64 (Zb4 l au ro))∧Below w.heap.size w w':=by
 have a:=b.mono RSlot.mono (Zaa (Zn1 w (.cells #[.int .i64 au] 3) (.cells #[.int .i64 ro] 3)));go_enter func206,ntmps206;go_wp2_with fail;refine(Zo0 _ _ au ro _ _ _ a (by go_simp) (by go_simp)).mono ?_;rintro e w1 ⟨rfl,c⟩;go_wp2;go_ret;exact⟨rfl,(Zn1 _ _ _).trans (c.mono (by simp;omega))⟩
def Zh5(l:List Slot)(i:Nat):Bool:=match l[i]? with|some s=>Zgm s.author s.round s.digest.length != 0||decide (0≤Zb4 (l.take i) s.author s.round)|none=>false
def Zdd(l:List Slot):Int:=if 400<l.length then 12 else if (List.range l.length).any (Zh5 l)then 12 else 0
theorem Zvr{l:List Slot}(a:k<l.length):Zh5 l k=(Zgm l[k].author l[k].round l[k].digest.length != 0||decide (0≤Zb4 (l.take k) l[k].author l[k].round)):=by
 unfold Zh5;rw[Zp a]
theorem RSlots.take{n:Nat}{xs:List Slot}(p:RSlots h (.slice A n c) xs)(d:k≤xs.length):RSlots h (.slice A k c) (xs.take k):=by
 obtain⟨A',c',e,q,m,j,f,g⟩:=p;injection e with e1 e2 e3;subst e1 e2 e3;have a:(xs.take k).length=k:=by simp;omega
 refine⟨A,c,by rw[a],by omega,m,?_,f,fun hp=>?_⟩
 ·rw[a];exact Zg (Nat.mul_le_mul_right _ d) j
 ·obtain⟨b,o,ea,l⟩:=g (by omega);refine⟨b,o,ea,fun i hi=>?_⟩;rw[a]at hi;obtain⟨cs,q1,q2,q3⟩:=l i (by omega);exact⟨cs,q1,q2,by rw[List.getElem_take];exact q3⟩
theorem Zms(v:Value)(l:List Slot)(w:World)(E:RSlots w.cell? v l) :
 Calls prog 205 #[v] w fun e w'=>e=.returned (.int .i64 (Zdd l))∧Below w.heap.size w w':=by
 obtain⟨A,c,rfl,_⟩:=id E;obtain⟨_,J,I,D⟩:=E.at;have G:=Zb D;have M:=Zb E;clear D E;have m:∀x,Zdd l=x→Hid (Zdd l=x):=fun x h=>h
 by_cases L:400<l.length
 ·have P:=m 12 (by simp[Zdd,L]);clear m;go_enter func205,ntmps205;go_wp2;go_ret;exact⟨Zak P.out.symm,Zm _ _⟩
 have s:Hid (Zdd l=if (List.range l.length).any (Zh5 l)then 12 else 0):=by
  show _=_;simp only[Zdd,if_neg L]
 clear m;go_enter func205,ntmps205;go_wp2
 go_loopw [10] (fun i wr=>∃k:Nat,k≤l.length∧i=.int .i64 k∧Hid (∀j,j<k→Zh5 l j=false)∧Below w.heap.size w wr) (fun i _=>l.length-(intOf i).toNat)
 case atStart=>exact⟨0,Zf _,rfl,fun j N=>by omega,Zm _ _⟩
 case round =>
  obtain⟨k,Q,rfl,C,g⟩:=hrel
  by_cases o:k<l.length
  ·obtain⟨b0,o0,d,rfl,e0,e1,e2,hd⟩:=G.out k o;obtain⟨dA,dc,rfl,_⟩:=id hd;have c0:=Zaa g _ _ e0;have c1:=Zaa g _ _ e1;have c2:=Zaa g _ _ e2;have B:=Zb ((M.out.take (k:=k) (by omega)).mono RSlot.mono (Zaa g));have f:=Zb (Zvr o);have O:k≤c:=by omega
   have H:(k:Int)≤(c:Int):=by omega
   clear e0 e1 e2 hd;cases ht:(Zgm l[k].author l[k].round l[k].digest.length != 0)
   rotate_left
   ·rw[ht,Bool.true_or]at f;go_wp2;refine Za9 _ _ _ (fun W=>(Code.region _ _ _).wp _ _ _ W) (fun W q F p=>?_);have a:Below w.heap.size w W:=g.trans (p.mono g.size)
    refine Zch (fun w'=>Below W.heap.size W w') [(0,true),(1,false),(2,true),(3,true),(4,true),(5,true),(6,true),(7,true),(8,true),(9,true),(10,true),(11,false),(12,true),(13,true)] (by kernel_rfl) (by kernel_rfl) (fun _ _ d _ _ h=>by cases d<;>exact h) rfl (by kernel_rfl) ?_ ?_
    ·exact Zad _
    intro W1 b
    repeat((first|refine Zbd rfl rfl ⟨_,fun w' b=>by(have m:=q.kept b;have t:=m.cell 0;have z:=m.cell 1;have u:=m.cell 2;simp at t z u;go_simp;exact rfl),?_⟩|refine Zbi (by assumption) rfl rfl ?_);simp only[sx])
    refine Zd2 rfl rfl fun K r=>?_
    try simp only[sy]
    go_simp;refine(Zem _ _ _ _ _ _).mono ?_;rintro e w1 ⟨rfl,n⟩;refine r.out _ _ (b.trans (n.mono b.size)) fun b=>?_
    clear r K
    try simp only[sx]
    repeat((first|refine Zbd rfl rfl ⟨_,fun w' b=>by(skip;go_simp;exact rfl),?_⟩|refine Zbi (by assumption) rfl rfl ?_);simp only[sx])
    refine Zeq ?_;go_wp2;go_ret;exact⟨Zak (by rw[s.out,Zb8 o f.out];rfl),a.trans (b.mono a.size)⟩
   ·rw[ht,Bool.false_or]at f;cases ht2:decide (0≤Zb4 (l.take k) l[k].author l[k].round)
    all_goals
     rw[ht2]at f;go_wp2;refine Za9 _ _ _ (fun W=>(Code.region _ _ _).wp _ _ _ W) (fun W q F p=>?_);have a:Below w.heap.size w W:=g.trans (p.mono g.size)
     refine Zch (fun w'=>Below W.heap.size W w') [(0,true),(1,false),(2,true),(3,true),(4,true),(5,true),(6,true),(7,true),(8,true),(9,true),(10,true),(11,false),(12,true),(13,true)] (by kernel_rfl) (by kernel_rfl) (fun _ _ d _ _ h=>by cases d<;>exact h) rfl (by kernel_rfl) ?_ ?_
     ·exact Zad _
     intro W1 b
     repeat((first|refine Zbd rfl rfl ⟨_,fun w' b=>by(have m:=q.kept b;have t:=m.cell 0;have z:=m.cell 1;have u:=m.cell 2;simp at t z u;go_simp;exact rfl),?_⟩|refine Zbi (by assumption) rfl rfl ?_);simp only[sx])
     refine Zd2 rfl rfl fun K r=>?_
     try simp only[sy]
     go_simp;refine(Zem _ _ _ _ _ _).mono ?_;rintro e w1 ⟨rfl,n⟩;refine r.out _ _ (b.trans (n.mono b.size)) fun b=>?_
     clear r K
     try simp only[sx]
     repeat((first|refine Zbd rfl rfl ⟨_,fun w' b=>by(have m:=q.kept b;have t:=m.cell 0;have z:=m.cell 1;have u:=m.cell 2;simp at t z u;go_simp;exact rfl),?_⟩|refine Zbi (by assumption) rfl rfl ?_);simp only[sx])
     refine Zd2 rfl rfl fun K r=>?_
     try simp only[sy]
     go_simp;refine(Ztp _ (l.take k) _ _ _ (B.out.mono RSlot.mono (Zaa (p.trans (b.mono (by omega)))))).mono ?_;rintro e w' ⟨rfl,y⟩;refine r.out _ _ (b.trans (y.mono b.size)) fun b=>?_
     clear r K
     try simp only[sx]
     repeat((first|refine Zbd rfl rfl ⟨_,fun w' b=>by(skip;go_simp;exact rfl),?_⟩|refine Zbi (by assumption) rfl rfl ?_);simp only[sx])
     refine Zeq ?_;go_wp2
    ·go_roundw
     case rel=>exact⟨k+1,by omega,by go_num,upto_succ C.out f.out,a.trans (b.mono a.size)⟩
     case measure=>simp[intOf];omega
    ·go_ret;exact⟨Zak (by rw[s.out,Zb8 o f.out];rfl),a.trans (b.mono a.size)⟩
  ·go_wp2;go_ret;exact⟨Zak (by rw[s.out,Zds (fun j N=>C.out j (by omega))];rfl),g⟩
structure GrL (w w':World) (v v':Value):Prop where
 gr:w.grownBy w' v.ownBlock
 loc:∀q,v'.ownBlock=some q→v.ownBlock=some q∨w.heap.size≤q
theorem GrL.refl(w:World)(v:Value):GrL w w v v:=⟨Zff _ _,fun _ h=>.inl h⟩
theorem GrL.trans{a b c:World}{v1 v2:Value}(h:GrL a b v v1)(k:GrL b c v1 v2):GrL a c v v2:=by
 refine⟨⟨k.gr.os.trans h.gr.os,k.gr.tape.trans h.gr.tape,k.gr.output.trans h.gr.output,Zg h.gr.size k.gr.size,fun i hi d=>?_⟩,fun q f=>?_⟩
 ·refine(k.gr.block i (Nat.lt_of_lt_of_le hi h.gr.size) (fun e=>?_)).trans (h.gr.block i hi d)
  rcases h.loc i e.symm with q|q
  ·exact d q.symm
  ·omega
 ·rcases k.loc q f with e|e
  ·exact h.loc q e
  ·exact .inr (Zg h.gr.size e)
theorem GrL.below{a b c:World}{v':Value}(h:Below a.heap.size a b)(k:GrL b c v v'):GrL a c v v' :=
 ⟨Zae (Zal _ h) k.gr,fun q d=>(k.loc q d).imp id fun e=>Zg h.size e⟩
theorem GrL.cell{v':Value}(h:GrL w w' v v')(b:w.cell? ⟨g,i,none⟩=some u)(a:¬(some g=v.ownBlock)):w'.cell? ⟨g,i,none⟩=some u:=h.gr.cell b a
theorem Zv2(v:Value)(n:Int)(xs:List UInt8)(B:Nat)(w:World)(d:OwnB w B v xs)(l:B≤w.heap.size)(s:0≤n)(hn:n≤140737488355328)(r:xs.length+3≤140737488355328) :
 Calls prog 45 #[v,.int .i64 n] w fun e w'=>∃v',e=.returned v'∧Below B w w'∧Keeps w w'∧OwnB w' B v' (xs++Zca n)∧GrL w w' v v':=by
 obtain⟨A,c,rfl⟩:=d.form;have u0:=Zaw (n/65536);have u1:=Zaw (n/256);have u2:=Zaw n;have f:Hid (Zca n=[Zaq (n/65536),Zaq (n/256),Zaq n]):=rfl;generalize Zaq (n/65536)=U0 at u0 f;generalize Zaq (n/256)=U1 at u1 f;generalize Zaq n=U2 at u2 f;generalize Zca n=Wb at f⊢;go_enter func45,ntmps45
 go_wp2_with (at_builtin;first
  |(refine Zcg (n:=140737488355328) (ys:=[U0,U1,U2]) Za7 Zb0 _ _ rfl rfl rfl (d.alloc _) (Zar _ l) rfl (Zpc (xs:=[U0,U1,U2]) (Blk.new _ _ _) (by simp) (by simp)) (by decide) (by simp;omega) (by simp;omega) ?_))
 intro v1 w1 k b a;have j:Below B w w1:=((Zm B w).alloc l _).grown b (Zar _ l) (fun g p=>(d.own.lt g p).1);have o:=(Zcr w (.cells #[encB U0,encB U1,encB U2] 5)).trans (Zat (d.alloc _) b);have i:GrL w w1 (.slice A xs.length c) v1:=GrL.below (Zac w (.cells #[encB U0,encB U1,encB U2] 5)) ⟨b,fun q m=>by first|simpa using a q m|simpa using a (by simp) q m⟩;clear b d a;go_wp2;go_ret;exact⟨_,rfl,j,o,by rw[f.out];exact k,i⟩
theorem Zgq(w0:World)(v vl:Value)(xs:List UInt8)(l:List (List UInt8))(w:World)(f:Below w0.heap.size w0 w)(x:OwnB w w0.heap.size v xs)(I:RDigs w0.cell? vl l)(h:∀k (X:k<l.length),0<l[k].length)(V:xs.length+1+l.flatten.length≤140737488355328) :
 Calls prog 77 #[v,vl] w fun e w'=>∃v',e=.returned v'∧Below w0.heap.size w0 w'∧Keeps w w'∧OwnB w' w0.heap.size v' (xs++Zeg l)∧GrL w w' v v':=by
 obtain⟨oA,oc,rfl⟩:=x.form;obtain⟨A,c,rfl,_⟩:=id I;obtain⟨_,U,S,F⟩:=I.at;have H:=Zb F;have O:=Zb h;clear F I h;have s:=f.size;have e0:=Zaw l.length;have hD:Hid (Zeg l=Zaq l.length::l.flatten):=rfl;generalize Zaq l.length=U0 at e0 hD;generalize Zeg l=Db at hD⊢;go_enter func77,ntmps77
 go_wp2_with (at_builtin;first
  |(refine Zcg (n:=140737488355328) (ys:=[U0]) Za7 Zb0 _ _ rfl rfl rfl (x.alloc _) (Zar _ s) rfl (Zpc (xs:=[U0]) (Blk.new _ _ _) (by simp) (by simp)) (by decide) (by simp;omega) (by simp;omega) ?_))
 intro v1 w1 t j b;have C:Below w0.heap.size w0 w1:=(f.alloc s _).grown j (Zar _ s) (fun g M=>(x.own.lt g M).1);have B:GrL w w1 (.slice oA xs.length oc) v1:=GrL.below (Zac w (.cells #[encB U0] 5)) ⟨j,fun q D=>by first|simpa using b q D|simpa using b (by simp) q D⟩;clear b;have G:=(Zcr w (.cells #[encB U0] 5)).trans (Zat (x.alloc _) j);clear j x;obtain⟨Y,N⟩:∃Y,Hid (xs++[U0]=Y):=⟨_,rfl⟩;have W:Y.length=xs.length+1:=by rw[←N.out];simp
 rw[N.out]at t;go_wp2
 go_loopw [0,15] (fun v i wr=>∃k:Nat,k≤l.length∧i=.int .i64 k∧OwnB wr w0.heap.size v (Y++(l.take k).flatten)∧Below w0.heap.size w0 wr∧Keeps w wr∧GrL w wr (.slice oA xs.length oc) v) (fun _ i _=>l.length-(intOf i).toNat)
 case atStart=>exact⟨0,Zf _,rfl,by simpa using t,C,G,B⟩
 case round =>
  clear t C G B f s;obtain⟨k,X,rfl,a,f,E,u⟩:=hrel;have s:=f.size
  by_cases r:k<l.length
  ·obtain⟨b0,o0,d,rfl,q0,hd⟩:=H.out k r;have c0:=Zaa f _ _ q0;obtain⟨dA,dc,rfl,_⟩:=id hd;have T:=Zb (hd.mono (Zaa f));obtain⟨hn,y⟩:=Zqx l r;have R:=Zb hn;have o:=O.out k r;clear hd q0 hn;generalize (l.take k).flatten=Z at a R y;generalize l[k]=p at T R y c0 o;go_wp2_with (at_builtin;go_loud (refine Zcg (n:=140737488355328) (ys:=p) Za7 Zb0 _ _ rfl rfl rfl a s rfl T.out (by decide) (by simp;omega) (by simp;omega) ?_));intro v2 w2 Q m b;have K:Below w0.heap.size w0 w2:=f.grown m s (fun g M=>(a.own.lt g M).1);have P:=u.trans ⟨m,fun q D=>by first|simpa using b o q D|simpa using b q D⟩;clear b u;have J:=E.trans (Zat a m);clear m a;go_wp2;go_roundw
   case rel=>exact⟨k+1,by omega,by go_num,by rw[R.out];simpa using Q,K,J,P⟩
   case measure=>simp[intOf];omega
  ·have L:k=l.length:=by omega
   subst L;rw[List.take_length]at a;have z:OwnB wr w0.heap.size u0 (xs++Db):=by rw[hD.out];rw[←N.out,List.append_assoc]at a;exact a
   go_wp2;go_ret;exact⟨_,rfl,f,E,z,u⟩
theorem Zmy(w0:World)(v:Value)(xs:List UInt8)(a r:Int)(vb vp:Value)(b p:List (List UInt8))(w:World)(d:Below w0.heap.size w0 w)(y:OwnB w w0.heap.size v xs)(H:0≤r)(I:r≤140737488355328)(P:RDigs w0.cell? vb b)(hp:RDigs w0.cell? vp p)(G:∀k (E:k<b.length),0<b[k].length)(D:∀k (E:k<p.length),0<p[k].length)(N:xs.length+6+b.flatten.length+p.flatten.length≤140737488355328) :
 Calls prog 44 #[v,.agg #[.int .i64 a,.int .i64 r,vb,vp]] w fun e w'=>∃v',e=.returned v'∧Below w0.heap.size w0 w'∧Keeps w w'∧OwnB w' w0.heap.size v' (xs++Zcd a r b p)∧GrL w w' v v':=by
 obtain⟨oA,oc,rfl⟩:=y.form;have z:=d.size;have e0:=Zaw a;have hD:Hid (Zcd a r b p=((Zaq a::Zca r)++Zeg b)++Zeg p):=rfl;generalize Zaq a=U0 at e0 hD;generalize Zcd a r b p=Db at hD⊢;have F:(Zca r).length=3:=rfl;have C:(Zeg b).length=1+b.flatten.length:=by show(_::_).length=_;rw[Zu];omega
 generalize L:Zca r=Wr at F hD;generalize J:Zeg b=Bd at C hD;go_enter func44,ntmps44;go_wp2;refine Za9 _ _ _ (fun W=>(Code.region _ _ _).wp _ _ _ W) (fun W E M f=>?_);have A:Keeps w W:=Zbq f;have y:=y.kept f;have gq0:GrL w W (.slice oA xs.length oc) (.slice oA xs.length oc):=GrL.below f (GrL.refl _ _);have d:=d.trans (f.mono z);have z:=d.size;refine Zt (fun w'=>Below W.heap.size W w') (fun w'=>Blk w' w.heap.size 76 #[.int .i64 a,.int .i64 r,vb,vp]) [15] (.q 0 (.q 1 (.q 2 (.q 3 (.q 6 (.q 7 (.q 9 (.q 10 (.q 12 (.q 13 (.l 4 (.l 5 (.l 8 (.l 11 (.l 14 (.qc 15 .nil)))))))))))))))) ?_ ?_
 ·exact⟨Zad _,E⟩
 intro W1 o c;have y:=y.kept o;have gq0:=gq0.trans (GrL.below o (GrL.refl _ _));have A:=A.trans (Zbq o);have d:=d.trans (o.mono z);have z:=d.size;clear o E
 repeat((first|refine pq (h:=⟨_,fun w' c=>by(have j:=c.cell 0;have s:=c.cell 1;have m:=c.cell 2;have t:=c.cell 3;simp at j s m t;go_simp;exact rfl),?_⟩)|refine Zq ?_);simp only[sx])
 refine Zd fun K i=>?_
 try simp only[sy]
 go_simp;refine i.out _ _ (c.alloc _) fun c=>?_
 clear i K
 try simp only[sx]
 repeat((first|refine pq (h:=⟨_,fun w' c=>by(have j:=c.cell 0;have s:=c.cell 1;have m:=c.cell 2;have t:=c.cell 3;simp at j s m t;go_simp;exact rfl),?_⟩)|refine Zq ?_);simp only[sx])
 refine Zd fun K i=>?_
 try simp only[sy]
 have u:=Zpa W1 U0;have B:=y.alloc (.cells #[.int .u8 U0.toNat] 5);refine Zcp (n:=140737488355328) (xs:=xs) (ys:=[U0]) (v:=.slice oA xs.length oc) (vy:=.slice (some ⟨W1.heap.size,0,none⟩) 1 1) Za7 Zb0 _ _ rfl rfl B (Zar _ z) rfl u (by decide) (by simp;omega) (by simp;omega) ?_;intro v1 w1 o1 g1 x;have b1:Below w0.heap.size w0 w1:=(d.alloc z _).grown g1 (Zar _ z) (fun g O=>(y.own.lt g O).1);have gq1:=gq0.trans (GrL.below (Zac W1 (.cells #[.int .u8 U0.toNat] 5)) ⟨g1,x (by simp)⟩);clear x;have k0:=Zat B g1;have k1:=(Zcr W1 (.cells #[.int .u8 U0.toNat] 5)).trans k0;have z1:=b1.size;clear g1 B u;refine i.out _ _ (k0 _ _ _ (by decide) c) fun c=>?_
 clear i K
 try simp only[sx]
 repeat((first|refine pq (h:=⟨_,fun w' c=>by(have j:=c.cell 0;have s:=c.cell 1;have m:=c.cell 2;have t:=c.cell 3;simp at j s m t;go_simp;exact rfl),?_⟩)|refine Zq ?_);simp only[sx])
 refine Zd fun K i=>?_
 try simp only[sy]
 go_simp;refine(Zv2 v1 r (xs++[U0]) _ _ o1 z1 H I (by simp;omega)).mono ?_;rintro e w2 ⟨v2,rfl,b2,k2,o2,g2⟩;have gq2:=gq1.trans g2;clear g2 gq1;rw[L]at o2;have b2:=b1.trans b2;clear o1 b1;refine i.out _ _ (k2 _ _ _ (by decide) c) fun c=>?_
 clear i K
 try simp only[sx]
 repeat((first|refine pq (h:=⟨_,fun w' c=>by(have j:=c.cell 0;have s:=c.cell 1;have m:=c.cell 2;have t:=c.cell 3;simp at j s m t;go_simp;exact rfl),?_⟩)|refine Zq ?_);simp only[sx])
 refine Zd fun K i=>?_
 try simp only[sy]
 go_simp;refine(Zgq w0 v2 vb _ b _ b2 o2 P G (by simp only[Zl,Zu,List.length_nil];omega)).mono ?_;rintro e w3 ⟨v3,rfl,b3,k3,o3,g3⟩;have gq3:=gq2.trans g3;clear g3 gq2;rw[J]at o3;clear o2 b2;refine i.out _ _ (k3 _ _ _ (by decide) c) fun c=>?_
 clear i K
 try simp only[sx]
 repeat((first|refine pq (h:=⟨_,fun w' c=>by(have j:=c.cell 0;have s:=c.cell 1;have m:=c.cell 2;have t:=c.cell 3;simp at j s m t;go_simp;exact rfl),?_⟩)|refine Zq ?_);simp only[sx])
 refine Zd fun K i=>?_
 try simp only[sy]
 go_simp;refine(Zgq w0 v3 vp _ p _ b3 o3 hp D (by simp only[Zl,Zu,List.length_nil];omega)).mono ?_;rintro e w4 ⟨v4,rfl,b4,k4,o4,g4⟩;have gq4:=gq3.trans g4;clear g4 gq3;clear o3 b3;refine i.out _ _ (k4 _ _ _ (by decide) c) fun c=>?_
 clear i K
 try simp only[sx]
 repeat((first|refine pq (h:=⟨_,fun w' c=>by(have j:=c.cell 0;have s:=c.cell 1;have m:=c.cell 2;have t:=c.cell 3;simp at j s m t;go_simp;exact rfl),?_⟩)|refine Zq ?_);simp only[sx])
 refine Zai ?_;go_wp2;go_ret;exact⟨_,rfl,b4,(((A.trans k1).trans k2).trans k3).trans k4,by rw[hD.out];simpa using o4,gq4⟩
end Go.Proofs.YtbcpbnfojfiekaaGreatDoor
