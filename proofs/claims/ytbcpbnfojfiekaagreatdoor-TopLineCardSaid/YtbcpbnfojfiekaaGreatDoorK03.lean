/- A part of what the last text stands on. -/
import Derived.Lib.AtoiAllCases
import Derived.Lib.ItoaNum
import Derived.Lib.SplitLaws
import Derived.Lib.CutLaws
import Derived.Lib.IndexLaws
import GoSem.Op.String
import Derived.Test.YtbcpbnfojfiekaaGreatDoorK01
namespace Go.Proofs.YtbcpbnfojfiekaaGreatDoor
namespace Qa
end Qa
namespace Qb
end Qb
namespace Qc
end Qc
open Go.ChangeShapes Go.WideShapes Go.ChangeAt Go.RowKit Go.Proofs.Tryz Qa Qb Qc
set_option linter.all false
set_option maxHeartbeats 20000000
set_option maxRecDepth 100000
variable{P:Program}{w w' W wr:World}{o:Oper}{ops:Array Oper}{rest:List Oper}{Q:Exit→Act→World→Prop}{K:Act→World→Prop}{S:World→Prop}{v:Value}{cs:Array Value}{A:Option Addr}{h:View}{e t te:TypeId}{k i j g sz bs:Nat}{x y:Operand}{α:Type}{xs:List α}{enc:α→Value}{R:View→List Value→α→Prop}
theorem Zhh(w:World)(base:Nat)(t ty e:TypeId)(i:TypeInfo)(z:Value)(size bytes:Nat)(ht:P.underlying t=some (.slice e))(hi:P.info? e=some i)(y:i.zero=some z)(l:i.size=size)(s:i.bytes=bytes)(v:Value)(n:Nat)(xs:List Value)(k:w.ownsRow base e size v n xs)(ad:Addr)(m c:Nat)(news:List Value)(q:news.length=m*size)(a:∀j u,news[j]?=some u→w.cell? (ad.add j)=some u)(A:∀u∈news,u.oneCell'=true)(D:0<m)(B:n+m≤140737488355328)(b:(n+m)*bytes≤140737488355328){v':Value}(d:(Builtin.append_ #[t,t] ty #[v,.slice (some ad) m c]).run P w=.ok v' w'):v'.ownBlock=v.ownBlock∨v'.ownBlock=some w.heap.size:=by
 subst l s
 rcases k.2 with ⟨rfl,rfl⟩|⟨g,cap,cur,rfl,h,E,C,F,r,x⟩
 ·rw[Nat.zero_add]at b;rw[run_append_nil (P:=P) w t ty e i z ht hi y ad m c news q a D (by omega) (by omega)]at d;injection d with d _;subst d;exact .inr rfl
 ·by_cases f:n+m≤cap
  ·have p:n*i.size+news.length≤cur.size:=by rw[q,r,←Nat.add_mul];exact Nat.mul_le_mul_right _ f
   rw[run_append_room (P:=P) w t ty e i ht hi g n cap cur E ad m c news q a A f p]at d;injection d with d _;subst d;exact .inl rfl
  ·have o:∀j u,xs[j]?=some u→w.cell? ((⟨g,0,none⟩:Addr).add j)=some u:=k.cells (g:=g) rfl;rw[run_append_grow (P:=P) w t ty e i z ht hi y ⟨g,0,none⟩ n cap xs k.1 o ad m c news q a (by omega) (by omega) (growslice_fits (by omega) b)]at d;injection d with d _;subst d;exact .inr rfl
structure OwnSl {α:Type} (sz:Nat) (R:View→List Value→α→Prop) (e:TypeId) (w:World) (base:Nat) (v:Value) (xs:List α):Prop where
 own:∃css:List (List Value),w.ownsRow base e sz v xs.length css.flatten∧css.length=xs.length∧∀i (hi:i<xs.length),∃cs,css[i]?=some cs∧cs.length=sz∧R (View.but w.cell? v.ownBlock) cs xs[i]
def Mono(R:View→List Value→α→Prop):Prop:=∀h h' cs x,R h cs x→VLe h h'→R h' cs x
theorem OwnSl.nil(sz:Nat)(R:View→List Value→α→Prop)(e:TypeId)(w:World)(base:Nat):OwnSl sz R e w base (.slice none 0 0) [] :=
 ⟨[],World.ownsRow_nil _ _ _ _,rfl,fun i hi=>by simp at hi⟩
theorem Zh4{css:List (List Value)}(h:∀i (hi:i<css.length),css[i].length=sz):css.flatten.length=css.length*sz:=by
 induction css with
 |nil=>simp
 |cons c r ih =>
  have a:=h 0 (by simp);have:=ih (fun i hi=>by have:=h (i+1) (by simp;omega);simpa using this);simp only[List.getElem_cons_zero]at a;simp[this,a,Nat.add_mul,Nat.add_comm]
theorem Zhb{css:List (List Value)}(h:∀i (hi:i<css.length),css[i].length=sz){cs:List Value}(hi:css[i]?=some cs)(b:j<sz):css.flatten[i*sz+j]?=cs[j]?:=by
 induction css generalizing i with
 |nil=>simp at hi
 |cons c r ih =>
  have a:=h 0 (by simp);simp only[List.getElem_cons_zero]at a;cases i with
  |zero =>
   simp at hi;subst hi;simp[List.getElem?_append,a,b]
  |succ i =>
   have:=ih (fun i hi=>by have:=h (i+1) (by simp;omega);simpa using this) (i:=i) (by simpa using hi);rw[List.flatten_cons,List.getElem?_append_right (by rw[a,Nat.add_mul];omega),a,show(i+1)*sz+j-sz=i*sz+j by rw[Nat.add_mul];omega];exact this
theorem OwnSl.form{b:Nat}(h:OwnSl sz R e w b v xs):∃A c,v=.slice A xs.length c:=by
 obtain⟨css,a,_⟩:=h.own
 rcases a.2 with ⟨rfl,d⟩|⟨g,cap,cur,rfl,_⟩
 ·exact⟨none,0,by rw[d]⟩
 ·exact⟨_,_,rfl⟩
theorem OwnSl.base{b b':Nat}(h:OwnSl sz R e w b v xs)(j:b'≤b):OwnSl sz R e w b' v xs:=by
 obtain⟨css,⟨d,c⟩,a⟩:=h.own;refine⟨css,⟨d,?_⟩,a⟩
 rcases c with c|⟨g,cap,cur,a,f,i⟩
 ·exact .inl c
 ·exact .inr ⟨g,cap,cur,a,Zg j f,i⟩
theorem Zmh(a:Below w.heap.size w w')(g:Option Nat):VLe (View.but w.cell? g) (View.but w'.cell? g):=Zrc (Zal g a)
theorem OwnSl.kept(c:Mono R){b:Nat}(h:OwnSl sz R e w b v xs)(a:Below w.heap.size w w'):OwnSl sz R e w' b v xs:=by
 obtain⟨css,d,g,f⟩:=h.own
 refine⟨css,d.kept (row:=none) (Zal _ a) (by cases v.ownBlock<;>simp),g,fun i hi=>?_⟩
 obtain⟨cs,q1,q2,q3⟩:=f i hi;exact⟨cs,q1,q2,c _ _ _ _ q3 (Zmh a _)⟩
theorem OwnSl.reads(m:Mono R){b:Nat}(h:OwnSl sz R e w b v xs)(d:xs.length*bs≤140737488355328):RSl sz R bs w.cell? v xs:=by
 obtain⟨css,f,p,k⟩:=h.own
 have a:∀i (hi:i<css.length),css[i].length=sz:=fun i hi=>by
  obtain⟨cs,q1,q2,_⟩:=k i (by omega);rw[Zp hi]at q1;injection q1 with q1;rw[q1];exact q2
 rcases id f.2 with ⟨rfl,l⟩|⟨g,cap,cur,rfl,k2,k3,k4,k5,k6,k7⟩
 ·have:xs=[]:=List.eq_nil_of_length_eq_zero l;subst this;exact⟨none,0,rfl,Za _,Zf _,by simp,fun _=>rfl,fun h=>by simp at h⟩
 ·refine⟨_,cap,rfl,k4,k5,d,(fun h=>by cases h),fun hp=>⟨g,0,rfl,fun i hi=>?_⟩⟩;obtain⟨cs,q1,q2,q3⟩:=k i hi;refine⟨cs,q2,fun j n=>?_,m _ _ _ _ q3 (View.but_le _ _)⟩;have o:=Zhb a q1 n;have c:cs[j]?=some (cs[j]'(by omega)):=Zp _;rw[c];have:=f.cells (g:=g) rfl (i*sz+j) _ (o.trans c);rw[Zbs]at this;rwa[Nat.zero_add]at this⊢
def Elem(P:Program)(t e:TypeId)(sz bytes:Nat):Prop:=P.underlying t=some (.slice e)∧0<sz∧∃i z,P.info? e=some i∧i.zero=some z∧i.size=sz∧i.bytes=bytes∧z.cells.size=sz
theorem Zo4{bytes:Nat}{z:Value}(ht:P.underlying t=some (.slice e))(h:(P.info? e).map (fun i=>(i.zero,i.size,i.bytes))=some (some z,sz,bytes))(f:z.cells.size=sz)(c:0<sz):Elem P t e sz bytes:=by
 obtain⟨i0,hi,a,d,b⟩:=info_parts h;exact⟨ht,c,i0,z,hi,a,d,b,f⟩
theorem Zbh(T:Mono R){a:Act}{bytes base n:Nat}(x:α)(cs:List Value)(Z:Elem P t e sz bytes)(s y:Operand)(V:o.op=.call {callee:=.builtin .append,args:=#[s,y],argTypes:=#[t,t] })(hs:a.eval s=v)(B:OwnSl sz R e wr base v xs)(I:Below base W wr)(b:base≤wr.heap.size){gy:Nat}(X:a.eval y=.slice (some ⟨gy,0,none⟩) 1 1)(O:gy=wr.heap.size)(S:cs.length=sz)(Y:(cs.all fun u=>u.oneCell')=true)(N:R (View.but wr.cell? v.ownBlock) cs x)(F:n≤140737488355328)(hn:(xs.length+1)*bytes≤n)(E:xs.length+1≤n)(h:∀v' w',OwnSl sz R e w' base v' (xs++[x])→Below base W w'→wr.grownBy w' v.ownBlock→K (a.put o.dst v') w'):o.wp P a (wr.alloc (.cells cs.toArray e)) K Q:=by
 subst O
 obtain⟨ht,H,i,z,hi,w,p,A,J⟩:=Z
 obtain⟨css,q1,q2,q3⟩:=B.own
 have C:∀u∈cs,u.oneCell'=true:=fun u hu=>List.all_eq_true.1 Y u hu
 have d:∀j u,cs[j]?=some u→(wr.alloc (.cells cs.toArray e)).cell? ((⟨wr.heap.size,0,none⟩:Addr).add j)=some u:=fun j u hu=>by
  rw[Zbs,Nat.zero_add,cell_of_row _ _ j cs.toArray e (0,0) (heap_alloc_new wr _)]
  simpa using hu
 have q1':=q1.alloc (.cells cs.toArray e)
 obtain⟨v',w',U,M,G⟩:=Zc3 (P:=P) (wr.alloc (.cells cs.toArray e)) base t o.type e i z sz bytes ht hi w p A J H v xs.length css.flatten q1' (some ⟨wr.heap.size,0,none⟩) 1 1 cs (by rw[S,Nat.one_mul]) (fun h=>by cases h)
  (fun ad L=>by obtain rfl:=Option.some.inj L;exact d) C (Zbw (Zg E F)) (Zg hn F) (Zar _ b)
 have D:=Zhh (P:=P) (wr.alloc (.cells cs.toArray e)) base t o.type e i z sz bytes ht hi w p A v xs.length css.flatten q1' ⟨wr.heap.size,0,none⟩ 1 1 cs (by rw[S,Nat.one_mul]) d C (by decide) (Zg E F) (Zg hn F) U
 have g1:=World.grownBy_alloc wr (.cells cs.toArray e) v.ownBlock
 have g2:=Zae g1 G
 have f:VLe (View.but wr.cell? v.ownBlock) (View.but w'.cell? v'.ownBlock):=by
  intro ad u hu
  have h0:=hu
  unfold View.but at hu⊢
  split at hu
  ·cases hu
  ·rename_i r
   have l:=World.block_lt_of_cell? wr ad hu
   have q:¬(some ad.block=v'.ownBlock):=by
    rcases D with e|e
    ·rw[e];exact r
    ·rw[e];intro e;injection e with e;simp at e;omega
   rw[if_neg q]
   exact g2.cell hu r
 have m:o.wp P a (wr.alloc (.cells cs.toArray e)) K Q:=by
  unfold Oper.wp execOp
  simp[V,resolve,invoke,builtin,hs,X,U,Result.andThen,Oper.upon]
  refine h v' w' ⟨css++[cs],?_,by simp[q2],fun k hk=>?_⟩ ((I.alloc b _).grown G (Zar _ b) (fun g G=>(q1.lt g G).1)) g2
  ·rw[List.flatten_append,Zl]
   simpa using M
  ·by_cases l:k<xs.length
   ·obtain⟨c,r1,r2,r3⟩:=q3 k l
    refine⟨c,by rw[List.getElem?_append_left (by omega)];exact r1,r2,?_⟩
    rw[List.getElem_append_left l]
    exact T _ _ _ _ r3 f
   ·have:k=xs.length:=by simp at hk;omega
    subst this
    refine⟨cs,by rw[List.getElem?_append_right (by omega)];simp[q2],S,?_⟩
    rw[List.getElem_append_right (by omega)]
    simpa using T _ _ _ _ N f
 exact m
theorem Zaz(w:Mono R){a:Act}{bytes base n:Nat}(x:α)(cs:List Value)(r:Elem P t e sz bytes)(s y:Operand)(f:o.guard=none)(k:o.op=.call {callee:=.builtin .append,args:=#[s,y],argTypes:=#[t,t] })(D:a.eval s=v)(c:OwnSl sz R e wr base v xs)(d:Below base W wr)(b:base≤wr.heap.size){gy:Nat}(p:a.eval y=.slice (some ⟨gy,0,none⟩) 1 1)(i:gy=wr.heap.size)(C:cs.length=sz)(q:(cs.all fun u=>u.oneCell')=true)(g:R (View.but wr.cell? v.ownBlock) cs x)(l:n≤140737488355328)(hn:(xs.length+1)*bytes≤n)(j:xs.length+1≤n)(h:∀v' w',OwnSl sz R e w' base v' (xs++[x])→Below base W w'→wr.grownBy w' v.ownBlock→wpList P ops Q rest (a.put o.dst v') w'):wpList P ops Q (o::rest) a (wr.alloc (.cells cs.toArray e)) :=
 wpList_plain f fun _ z=>Zbh w x cs r s y k D c d b p i C q g l hn j fun v' w' m B A=>z _ _ (h v' w' m B A)
theorem OwnSl.lt{b:Nat}(h:OwnSl sz R e w b v xs):∀k,v.ownBlock=some k→b≤k∧k<w.heap.size:=by
 obtain⟨css,a,_⟩:=h.own;exact a.lt
theorem RSl.take{n c:Nat}(p:RSl sz R bs h (.slice A n c) xs)(d:k≤xs.length):RSl sz R bs h (.slice A k c) (xs.take k):=by
 obtain⟨A',c',e,q,m,j,f,g⟩:=p;injection e with e1 e2 e3;subst e1 e2 e3;have a:(xs.take k).length=k:=by simp;omega
 refine⟨A,c,by rw[a],by omega,m,?_,f,fun hp=>?_⟩
 ·rw[a];exact Zg (Nat.mul_le_mul_right _ d) j
 ·obtain⟨b,o,ea,l⟩:=g (by omega);refine⟨b,o,ea,fun i hi=>?_⟩;rw[a]at hi;obtain⟨cs,q1,q2,q3⟩:=l i (by omega);exact⟨cs,q1,q2,by rw[List.getElem_take];exact q3⟩
theorem OwnVec.reads_but{base:Nat}(h:OwnVec enc e w base v xs)(j:xs.length*bs≤140737488355328){g:Option Nat}(d:∀k,g=some k→k<base):RVec enc bs (View.but w.cell? g) v xs:=by
 have a:=h.own.lt;obtain⟨A,c,e1,q1,q2,q3,q4,q5⟩:=h.reads j;refine⟨A,c,e1,q1,q2,q3,q4,fun hp=>?_⟩;obtain⟨b,o,ea,f⟩:=q5 hp;refine⟨b,o,ea,fun i hi=>?_⟩;have l:=(a b (by rw[e1,ea];rfl)).1;unfold View.but;rw[if_neg (by intro e;have:=d _ e.symm;simp at this;omega)];exact f i hi
def View.from(h:View)(b:Nat):View:=fun a=>if a.block<b then none else h a
theorem View.from_le(h:View)(b:Nat):VLe (h.from b) h:=fun a v e=>by
 unfold View.from at e
 split at e
 ·cases e
 ·exact e
theorem Za0{f:View}(b:Nat)(c:VLe h f):VLe (View.from h b) (View.from f b):=fun a v e=>by
 unfold View.from at e⊢
 split at e
 ·cases e
 ·rename_i d
  rw[if_neg d]
  exact c a v e
def RFrom(b:Nat)(R:View→List Value→α→Prop):View→List Value→α→Prop:=fun h cs x=>R (h.from b) cs x
theorem RFrom.mono{b:Nat}(c:Mono R):Mono (RFrom b R):=fun h e cs x d a=>c _ _ _ _ d (Za0 b a)
structure Chg (G:List Nat) (w w':World):Prop where
 os:w'.os=w.os
 tape:w'.tape=w.tape
 output:w'.output=w.output
 size:w.heap.size≤w'.heap.size
 block:∀k,k<w.heap.size→k∉G→w'.heap[k]?=w.heap[k]?
section
variable {G:List Nat} {a b c w w':World}
theorem Chg.refl(G:List Nat)(w:World):Chg G w w:=⟨rfl,rfl,rfl,Za _,fun _ _ _=>rfl⟩
theorem Chg.drew(h:Chg G a b):Chg G a b.drew:=⟨h.os,h.tape,h.output,h.size,h.block⟩
theorem Chg.trans(h:Chg G a b)(k:Chg G b c):Chg G a c :=
 ⟨k.os.trans h.os,k.tape.trans h.tape,k.output.trans h.output,Zg h.size k.size,fun i hi hn=>(k.block i (Nat.lt_of_lt_of_le hi h.size) hn).trans (h.block i hi hn)⟩
theorem Chg.sub{G':List Nat}(h:Chg G a b)(e:∀g∈G,g∈G'∨a.heap.size≤g):Chg G' a b :=
 ⟨h.os,h.tape,h.output,h.size,fun i hi hn=>h.block i hi (fun d=>(e i d).elim hn (fun c=>Nat.lt_irrefl _ (Nat.lt_of_lt_of_le hi c)))⟩
theorem Chg.of_below{B:Nat}(h:Below B a b)(c:a.heap.size≤B):Chg G a b:=⟨h.os,h.tape,h.output,h.size,fun i hi _=>h.block i (Nat.lt_of_lt_of_le hi c)⟩
theorem Chg.of_grown{r:Option Nat}(h:a.grownBy b r)(c:∀g,r=some g→g∈G):Chg G a b :=
 ⟨h.os,h.tape,h.output,h.size,fun i hi hn=>h.block i hi (fun e=>hn (c i e.symm))⟩
theorem Chg.below{B:Nat}(h:Chg G a b)(f:∀g∈G,B≤g)(e:B≤a.heap.size):Below B a b :=
 ⟨h.os,h.tape,h.output,h.size,fun k c=>h.block k (Nat.lt_of_lt_of_le c e) (fun d=>Nat.lt_irrefl _ (Nat.lt_of_lt_of_le c (f k d)))⟩
theorem Chg.cell(h:Chg G a b)(k o:Nat)(c:k<a.heap.size)(hn:k∉G):b.cell? ⟨k,o,none⟩=a.cell? ⟨k,o,none⟩:=World.cell?_of_block (h.block k c hn)
theorem Blk.chg(h:Blk a g t cs)(d:Chg G a b)(c:g∉G):Blk b g t cs:=(d.block g h.lt c).trans h
theorem Zi7{B:Nat}(i:Chg G a b)(j:∀g∈G,g<B):VLe (View.from a.cell? B) (View.from b.cell? B):=by
 intro ad v e;unfold View.from at e⊢;split at e
 ·cases e
 ·rename_i d;have c:=World.block_lt_of_cell? a ad e;rw[if_neg d,World.cell?_of_block (i.block ad.block c (fun f=>d (j _ f)))];exact e
end
abbrev Arr(w:World)(g:Nat)(t:TypeId)(enc:α→Value)(xs:List α):Prop:=Blk w g t (xs.map enc).toArray
theorem Arr.at(h:Arr w g t enc xs)(i:Nat)(hi:i<xs.length):w.cell? ⟨g,i,none⟩=some (enc xs[i]):=by
 rw[h.cell];simp[hi]
theorem arr_set{x:α}(hi:i<xs.length):((xs.map enc).take i++([enc x]++(xs.map enc).drop (i+1)))=(xs.set i x).map enc:=by
 rw[List.map_set,List.set_eq_take_append_cons_drop,if_pos (by simpa using hi)];rfl
theorem Zbt{a:Act}(u:α)(e:o.op=.store t x y)(c:a.eval x=.pointer (some ⟨g,i,none⟩))(f:a.eval y=enc u)(ht:(P.info? t).map (·.size)=some 1)(hn:(enc u).cells=#[enc u])(d:(enc u).oneCell'=true)(k:Arr w g te enc xs)(hi:i<xs.length)(h:∀w',Arr w' g te enc (xs.set i u)→w.grownBy w' (some g)→K (a.put o.dst undef) w'):o.wp P a w K Q:=by
 refine Zau e c f ht (by rw[hn];rfl) k (by simp;omega) (by rw[hn];simpa using d) (fun w' b j=>h w' ?_ j);rw[hn,show(#[enc u]:Array Value).toList=[enc u] from rfl,List.toList_toArray,arr_set hi]at b;exact b
theorem Zpi{a:Act}{n c B:Nat}(u:α)(l:o.op=.store t x y)(f:a.eval x=.pointer (some ⟨g,i,none⟩))(m:a.eval y=enc u)(ht:(P.info? t).map (·.size)=some 1)(hn:(enc u).cells=#[enc u])(j:(enc u).oneCell'=true)(A:OwnVec enc e w B (.slice (some ⟨g,0,none⟩) n c) xs)(hi:i<xs.length)(h:∀w',OwnVec enc e w' B (.slice (some ⟨g,0,none⟩) n c) (xs.set i u)→w.grownBy w' (some g)→K (a.put o.dst undef) w'):o.wp P a w K Q:=by
 obtain⟨q1,q2⟩:=A.own
 rcases q2 with ⟨e1,_⟩|⟨g',cap',cur,e1,z,s,k,q,r,C⟩
 ·cases e1
 ·injection e1 with e1 e2 e3;injection e1 with e1;injection e1 with e1 _ _;subst e1 e2 e3;have d:cur.size=c:=by simpa using r
  refine Zau l f m ht (by rw[hn];rfl) (show Blk w g e cur from s) (by omega) (by rw[hn];simpa using j) (fun w' b p=>h w' ⟨?_⟩ p);rw[hn,show(#[enc u]:Array Value).toList=[enc u] from rfl]at b;rw[List.length_set];refine⟨by simp,.inr ⟨g,c,_,rfl,z,b,k,q,?_,?_⟩⟩
  ·simp;omega
  ·rw[List.toList_toArray,List.singleton_append]
   have v:cur.toList.take i++enc u::cur.toList.drop (i+1)=cur.toList.set i (enc u):=by
    rw[List.set_eq_take_append_cons_drop,if_pos (by simp;omega)]
   rw[v,List.take_set,C,List.map_set]
theorem OwnVec.lit{B n:Nat}(c:Blk w g e (xs.map enc).toArray)(b:B≤g)(hn:n=xs.length)(a:n≤140737488355328):OwnVec enc e w B (.slice (some ⟨g,0,none⟩) n n) xs:=by
 subst hn;exact⟨by simp,.inr ⟨g,xs.length,_,rfl,b,c,Za _,Zbw a,by simp,by simp[List.take_of_length_le]⟩⟩
theorem Zcp{a:Act}{bytes base n:Nat}{vy:Value}{ys:List α}(M:Zkm P t e bytes)(L:∀x:α,(enc x).oneCell'=true)(s y:Operand)(H:o.op=.call {callee:=.builtin .append,args:=#[s,y],argTypes:=#[t,t] })(O:a.eval s=v)(d:OwnVec enc e wr base v xs)(g:base≤wr.heap.size)(J:a.eval y=vy)(D:RVec enc bytes wr.cell? vy ys)(w:n≤140737488355328)(hn:(xs.length+ys.length)*bytes≤n)(r:xs.length+ys.length≤n)(h:∀v' w',OwnVec enc e w' base v' (xs++ys)→wr.grownBy w' v.ownBlock→(0<ys.length→∀k,v'.ownBlock=some k→v.ownBlock=some k∨wr.heap.size≤k)→K (a.put o.dst v') w'):o.wp P a wr K Q:=by
 obtain⟨ht,i,z,hi,l,j,m,C⟩:=M;obtain⟨A,c,rfl,_⟩:=id D;obtain⟨_,_,_,F,E,b⟩:=D.src;have f:∀u∈ys.map enc,u.oneCell'=true:=fun u hu=>by obtain⟨x,_,rfl⟩:=List.mem_map.1 hu;exact L x
 obtain⟨v',w',G,I,N⟩:=Zc3 (P:=P) wr base t o.type e i z 1 bytes ht hi l j m C (by decide) v xs.length _ d.own A ys.length c (ys.map enc) F E b f (Zbw (Zg r w)) (Zg hn w) g
 have p:0<ys.length→∀k,v'.ownBlock=some k→v.ownBlock=some k∨wr.heap.size≤k:=fun hp k B=>by
  cases A with
  |none=>have:=(E rfl).1;omega
  |some ad =>
   rcases Zhh (P:=P) wr base t o.type e i z 1 bytes ht hi l j m v xs.length _ d.own ad ys.length c (ys.map enc) F (b ad rfl) f hp (Zg r w) (Zg hn w) G with q|q
   ·exact .inl (by rw[←q];exact B)
   ·rw[q]at B;injection B with B;exact .inr (by omega)
 unfold Oper.wp execOp;simp[H,resolve,invoke,builtin,O,J,G,Result.andThen,Oper.upon];exact h v' w' ⟨by simpa using I⟩ N p
theorem Zcg{a:Act}{bytes base n:Nat}{vy:Value}{ys:List α}(p:Zkm P t e bytes)(i:∀x:α,(enc x).oneCell'=true)(s y:Operand)(f:o.guard=none)(l:o.op=.call {callee:=.builtin .append,args:=#[s,y],argTypes:=#[t,t] })(u:a.eval s=v)(c:OwnVec enc e wr base v xs)(b:base≤wr.heap.size)(g:a.eval y=vy)(m:RVec enc bytes wr.cell? vy ys)(z:n≤140737488355328)(hn:(xs.length+ys.length)*bytes≤n)(d:xs.length+ys.length≤n)(h:∀v' w',OwnVec enc e w' base v' (xs++ys)→wr.grownBy w' v.ownBlock→(0<ys.length→∀k,v'.ownBlock=some k→v.ownBlock=some k∨wr.heap.size≤k)→wpList P ops Q rest (a.put o.dst v') w'):wpList P ops Q (o::rest) a wr :=
 wpList_plain f fun _ q=>Zcp p i s y l u c b g m z hn d fun v' w' w r j=>q _ _ (h v' w' w r j)
theorem Zed{a:Act}(u:α)(b:o.guard=none)(e:o.op=.store t x y)(c:a.eval x=.pointer (some ⟨g,i,none⟩))(f:a.eval y=enc u)(ht:(P.info? t).map (·.size)=some 1)(hn:(enc u).cells=#[enc u])(d:(enc u).oneCell'=true)(m:Arr w g te enc xs)(hi:i<xs.length)(h:∀w',Arr w' g te enc (xs.set i u)→w.grownBy w' (some g)→wpList P ops Q rest (a.put o.dst undef) w'):wpList P ops Q (o::rest) a w :=
 wpList_plain b fun _ j=>Zbt u e c f ht hn d m hi fun w' l k=>j _ _ (h w' l k)
theorem Zcl{a:Act}{n:Nat}{new:Array Value}(c:o.guard=none)(f:o.op=.store t x y)(d:a.eval x=.pointer (some ⟨g,0,none⟩))(i:a.eval y=.agg new)(hi:(P.info? t).map (·.size)=some n)(hn:new.size=n)(m:Blk w g te cs)(b:cs.size=n)(e:(new.toList.all fun u=>u.oneCell')=true)(h:∀w',Blk w' g te new→w.grownBy w' (some g)→wpList P ops Q rest (a.put o.dst undef) w'):wpList P ops Q (o::rest) a w :=
 wpList_plain c fun _ j=>Zc1 f d i hi hn m b e fun w' l k=>j _ _ (h w' l k)
theorem Zj{a:Act}{new:Array Value}(n:Nat)(j:Blk w g te cs)(h:∀w',Blk w' g te new→w.grownBy w' (some g)→wpList P ops Q rest (a.put o.dst undef) w')(c:o.guard=none:=by exact rfl)(f:o.op=.store t x y:=by exact rfl)(d:a.eval x=.pointer (some ⟨g,0,none⟩):=by exact rfl)(i:a.eval y=.agg new:=by exact rfl)(hi:(P.info? t).map (·.size)=some n:=by kernel_rfl)(hn:new.size=n:=by exact rfl)(b:cs.size=n:=by exact rfl)(e:(new.toList.all fun u=>u.oneCell')=true:=by exact rfl):wpList P ops Q (o::rest) a w:=Zcl c f d i hi hn j b e h
section
variable {P:Program} {ops:Array Oper} {Q:Exit→Act→World→Prop} {S:World→Prop} {C:List Nat}
def wpC(P:Program)(ops:Array Oper)(Q:Exit→Act→World→Prop)(S:World→Prop)(C:List Nat):Nat→Array Bool→Act→World→Prop
 |0,listed,a,w=>Region.ready .any ops listed=[]∧Q .normal a w
 |fuel+1,listed,a,w =>
  (Region.ready .any ops listed=[]→Q .normal a w) ∧
  ∀i∈Region.ready .any ops listed,wpOp P ops Q i (fun a' w'=>(i∉C→S w')∧wpC P ops Q S C fuel (listed.setIfInBounds i true) a' w') a w
theorem Zi6:∀(fuel:Nat) (listed:Array Bool) (a:Act) (w:World),wpC P ops Q S C fuel listed a w→wpAny P .any ops Q fuel listed a w
 |0,_,_,_,h=>h
 |fuel+1,_,_,_,h=>⟨h.1,fun i hi=>wpOp_mono (fun a' w' b=>Zi6 fuel _ a' w' b.2) (h.2 i hi)⟩
inductive Pl where
 |nil
 |q (i:Nat) (p:Pl)
 |qc (i:Nat) (p:Pl)
 |l (i:Nat) (p:Pl)
 |alt (i:Nat) (p:Pl) (j:Nat) (r:Pl)
def Pl.fuel:Pl→Nat
 |.nil=>0
 |.q _ p=>p.fuel+1
 |.qc _ p=>p.fuel+1
 |.l _ p=>p.fuel+1
 |.alt _ p _ _=>p.fuel+1
def owed(S:World→Prop)(C:List Nat)(i:Nat)(w:World):Prop:=if C.contains i then True else S w
def Pl.wp(P:Program)(ops:Array Oper)(Q:Exit→Act→World→Prop)(S:World→Prop)(C:List Nat):Pl→Act→World→Prop
 |.nil,a,w=>Q .normal a w
 |.q i p,a,w=>∃o v,ops[i]?=some o∧YieldsIf P ops S o v a∧(S w∧p.wp P ops Q S C (a.put o.dst v) w)
 |.qc i p,a,w=>∃o v,ops[i]?=some o∧YieldsIf P ops (fun _=>True) o v a∧p.wp P ops Q S C (a.put o.dst v) w
 |.l i p,a,w=>wpOp P ops Q i (fun a' w'=>owed S C i w'∧p.wp P ops Q S C a' w') a w
 |.alt i p j r,a,w=>wpOp P ops Q i (fun a' w'=>owed S C i w'∧p.wp P ops Q S C a' w') a w∧wpOp P ops Q j (fun a' w'=>owed S C j w'∧r.wp P ops Q S C a' w') a w
theorem Zgb(h:owed S C i w)(hn:i∉C):S w:=by
 unfold owed at h;rw[if_neg (by simpa using hn)]at h;exact h
theorem Zai{a:Act}(h:Q .normal a w):Pl.wp P ops Q S C .nil a w:=h
theorem pl_q{p:Pl}{a:Act}(d:S w)(b:ops[i]?=some o)(c:Region.wanted o (yielded ops a.tmps)=true)(h:∃v,(∀w,S w→(execOp a.eval o).run P w=.ok (.value v) w)∧p.wp P ops Q S C (a.put o.dst v) w):Pl.wp P ops Q S C (.q i p) a w :=
 let ⟨v,hv,h⟩:=h
 ⟨o,v,b,.inl ⟨c,hv⟩,d,h⟩
theorem pl_qc{p:Pl}{a:Act}(b:ops[i]?=some o)(c:Region.wanted o (yielded ops a.tmps)=true)(h:∃v,(∀w,True→(execOp a.eval o).run P w=.ok (.value v) w)∧p.wp P ops Q S C (a.put o.dst v) w):Pl.wp P ops Q S C (.qc i p) a w :=
 let ⟨v,hv,h⟩:=h
 ⟨o,v,b,.inl ⟨c,hv⟩,h⟩
theorem Zw1{p:Pl}{a:Act}(d:S w)(b:ops[i]?=some o)(c:Region.wanted o (yielded ops a.tmps)=false)(h:p.wp P ops Q S C (a.put o.dst undef) w):Pl.wp P ops Q S C (.q i p) a w:=⟨o,undef,b,.inr ⟨c,rfl⟩,d,h⟩
theorem Zz0{p:Pl}{a:Act}(d:S w)(b:ops[i]?=some o)(c:Region.wanted o (yielded ops a.tmps)=false)(h:p.wp P ops Q S C (a.put o.dst undef) w):Pl.wp P ops Q S C (.l i p) a w:=by
 show wpOp _ _ _ _ _ _ _;unfold wpOp;simp only[b,c];refine⟨?_,h⟩;unfold owed;split
 ·trivial
 ·exact d
theorem op_do{R:Act→World→Prop}{a:Act}(c:ops[i]?=some o)(d:Region.wanted o (yielded ops a.tmps)=true)(h:∀K:Act→World→Prop,Shut (∀a' w',S w'→(S w'→R a' w')→K a' w')→Oper.wp P o a w K Q):wpOp P ops Q i (fun a' w'=>owed S C i w'∧R a' w') a w:=by
 unfold wpOp;simp only[c,d,if_true]
 exact .inl (h _ (fun a' w' b e=>⟨by unfold owed;split<;>first|trivial|exact b,e b⟩))
theorem Zz7{R:Act→World→Prop}{a:Act}(c:ops[i]?=some o)(d:Region.wanted o (yielded ops a.tmps)=true)(e:C.contains i=true)(h:∀K:Act→World→Prop,Shut (∀a' w',R a' w'→K a' w')→Oper.wp P o a w K Q):wpOp P ops Q i (fun a' w'=>owed S C i w'∧R a' w') a w:=by
 unfold wpOp;simp only[c,d,if_true];exact .inl (h _ (fun a' w' b=>⟨by unfold owed;rw[if_pos e];trivial,b⟩))
theorem Zcm{p r:Pl}{a:Act}(b:wpOp P ops Q i (fun a' w'=>owed S C i w'∧p.wp P ops Q S C a' w') a w)(c:wpOp P ops Q j (fun a' w'=>owed S C j w'∧r.wp P ops Q S C a' w') a w):Pl.wp P ops Q S C (.alt i p j r) a w:=⟨b,c⟩
end
section
variable {P:Program} {ops:Array Oper} {Q:Exit→Act→World→Prop} {S:World→Prop} {C:List Nat}
def Zj4(ops:Array Oper):Nat→Nat→Nat→Bool
 |0,_,_=>false
 |n+1,j,i=>match ops[j]? with
  |some o=>o.after.any fun e=>Region.binds .any e&&(e.on==i||Zj4 ops n e.on i)
  |none=>false
def Cl(ops:Array Oper)(x:Array Bool):Prop:=∀j oj,ops[j]?=some oj→x.getD j false=true→∀e∈oj.after,Region.binds .any e=true→x.getD e.on false=true
theorem Zj3{x:Array Bool}(a:Cl ops x):∀(n j i:Nat),Zj4 ops n j i=true→(∀o,ops[j]?=some o→∀e∈o.after,Region.binds .any e=true→x.getD e.on false=true)→x.getD i false=true
 |0,_,_,h,_=>by simp[Zj4]at h
 |n+1,j,i,h,hd=>by
  unfold Zj4 at h
  split at h
  ·rename_i o l
   obtain⟨k,g,b⟩:=Array.any_eq_true.1 h
   simp only[Bool.and_eq_true,Bool.or_eq_true,beq_iff_eq]at b
   have f:=hd o l _ (Array.getElem_mem g) b.1
   rcases b.2 with d|d
   ·rw[←d];exact f
   ·exact Zj3 a n _ i d (fun o' c e m p=>a _ o' c f e m p)
  ·cases h
theorem Znz{x:Array Bool}(d:Cl ops x)(m:j∈Region.ready .any ops x):Cl ops (x.setIfInBounds j true):=fun k ok f g e i l=>by
 obtain⟨_,oj,c,b⟩:=mem_ready.1 m
 by_cases a:k=j
 ·subst a
  obtain rfl:=Option.some.inj (f.symm.trans c)
  exact getD_set_true (b e i l)
 ·rw[getD_set_ne false (Ne.symm a)]at g
  exact getD_set_true (d k ok f g e i l)
theorem cl_start(n:Nat):Cl ops (Array.replicate n false):=fun j oj b a=>by
 simp[Array.getElem?_replicate]at a
 split at a<;>simp_all
end
section
variable {P:Program} {ops:Array Oper} {Q:Exit→Act→World→Prop} {S:World→Prop} {C:List Nat}
def Zjn:Op→Bool
 |.extract _ _=>true
 |.move _=>true
 |_=>false
theorem Zt5{oj:Oper}(i:ops[j]?=some oj)(d:Zjn oj.op=true){a:Act}(h:wpOp P ops Q j K a w):wpOp P ops Q j (fun a' w'=>w'=w∧K a' w') a w:=by
 unfold wpOp at *;simp only[i]at *;split
 ·rename_i c;simp only[c,if_true]at h;refine h.imp (fun h=>?_) id;unfold Oper.wp at *;unfold Zjn at d;split at d
  ·rename_i x k b;unfold execOp at *;simp only[b]at *
   have e:(∃v,(Instr.extract (a.eval x) k).run P w=.ok v w)∨∃y w2,(Instr.extract (a.eval x) k).run P w=.halt y w2:=by
    cases hr:(Instr.extract (a.eval x) k).run P w with
    |halt y w2=>exact .inr ⟨y,w2,rfl⟩
    |ok v w2 =>
     left;refine⟨v,?_⟩;unfold Instr.extract at hr;split at hr
     ·split at hr
      ·simp only[Sem.run_pure]at hr;injection hr with h1 h2;rw[←h1,h2]
      ·simp at hr
     ·simp at hr
   rcases e with ⟨v,f⟩|⟨y,w2,g⟩
   ·rw[Sem.run_bind,f]at h⊢;simp only[Result.andThen_ok,Sem.run_pure]at h⊢;exact⟨rfl,h⟩
   ·rw[Sem.run_bind,g]at h⊢
    cases y<;>simp only[Result.andThen,Oper.upon]at h⊢<;>exact h
  ·rename_i x b;unfold execOp at *;simp only[b]at *;simp only[Sem.run_pure]at h⊢;exact⟨rfl,h⟩
  ·cases d
 ·rename_i c;simp only[c]at h;exact⟨trivial,h⟩
theorem Zm5{T:World→Prop}{oi:Oper}(m:Nat)(hi:ops[i]?=some oi)(r:∀(j:Nat) (o:Oper) cs b,ops[j]?=some o→o.op≠.select cs b)(X:∀c a w,Q (.panic c) (a.put oi.dst v) w→Q (.panic c) a w)(hT:∀j oj w w',ops[j]?=some oj→Zj4 ops m j i=false→(Zjn oj.op=true→w'=w)→T w→(j∉C→S w')→T w')(G:i∉C→∀w,T w→S w) :
 ∀(fuel:Nat) (listed:Array Bool) (a:Act) (w:World),Cl ops listed →
  (∀j oj,ops[j]?=some oj→j≠i→listed.getD j true=false→(∀e∈oj.after,Region.binds .any e=true→e.on≠i)→oi.apart ops oj=true) →
  i∈Region.ready .any ops listed→YieldsIf P ops T oi v a→T w →
  wpC P ops Q S C fuel (listed.setIfInBounds i true) (a.put oi.dst v) w→wpC P ops Q S C (fuel+1) listed a w:=by
 intro fuel
 induction fuel with
 |zero =>
  intro listed a w _ _ x I g H;refine⟨fun h=>(by rw[h]at x;cases x),fun j D=>?_⟩
  by_cases d:j=i
  ·subst d;exact I.wpOp hi g ⟨fun hn=>G hn w g,H⟩
  ·have:=ready_mono D d;rw[H.1]at this;cases this
 |succ fuel ih =>
  intro listed a w F l x I g H;refine⟨fun h=>(by rw[h]at x;cases x),fun j D=>?_⟩
  by_cases d:j=i
  ·subst d;exact I.wpOp hi g ⟨fun hn=>G hn w g,H⟩
  ·have z:=H.2 j (ready_mono D d);obtain⟨s,oj,f,u⟩:=mem_ready.1 D
   have t:listed.getD i false=true→False:=fun z=>by
    have R:=(mem_ready.1 x).1
    rcases Nat.lt_or_ge i listed.size with N|N
    ·simp[N]at R z;rw[R]at z;cases z
    ·simp[Array.getElem?_eq_none N]at z
   have B:∀e∈oj.after,Region.binds .any e=true→e.on≠i:=fun e y O L=>t (by rw[←L];exact u e y O)
   have q:Zj4 ops m j i=false:=by
    cases hr':Zj4 ops m j i
    ·rfl
    ·exact(t (Zj3 F m j i hr' (fun o V e y O=>by obtain rfl:=Option.some.inj (V.symm.trans f);exact u e y O))).elim
   have U:=wpOp_putIf f (l j oj f d s B) (fun cs b=>r i oi cs b hi) (fun cs b=>r j oj cs b f) X I z
   have p:∀k ok,ops[k]?=some ok→k≠i→(listed.setIfInBounds j true).getD k true=false →
    (∀e∈ok.after,Region.binds .any e=true→e.on≠i)→oi.apart ops ok=true:=fun k ok W K E M=>by
    refine l k ok W K ?_ M
    by_cases A:j=k
    ·subst A;exact s
    ·rw[getD_set_ne true A]at E;exact E
   have J:wpOp P ops Q j (fun a' w'=>(Zjn oj.op=true→w'=w)∧(YieldsIf P ops T oi v a'∧((j∉C→S w')∧wpC P ops Q S C fuel ((listed.setIfInBounds i true).setIfInBounds j true) (a'.put oi.dst v) w'))) a w:=by
    by_cases y:Zjn oj.op=true
    ·exact wpOp_mono (fun a' w' n=>⟨fun _=>n.1,n.2⟩) (Zt5 f y U)
    ·exact wpOp_mono (fun a' w' n=>⟨fun h=>absurd h y,n⟩) U
   refine wpOp_mono (fun a' w' n=>⟨n.2.2.1,ih (listed.setIfInBounds j true) a' w' (Znz F D) p (ready_mono x (Ne.symm d)) n.2.1 (hT j oj w w' f q n.1 g n.2.2.1) ?_⟩) J;rw[Array.setIfInBounds_comm _ _ d];exact n.2.2.2
def closeOk7(ops:Array Oper)(C:List Nat)(i:Nat):Bool:=C.all fun j=>(match ops[j]? with|some o=>Zjn o.op|none=>false)||Zj4 ops 9 j i
def Pl.ok7(ops:Array Oper)(C:List Nat):Pl→Array Bool→Bool
 |.nil,x=>(Region.ready .any ops x).isEmpty
 |.q i p,x=>Region.free .any ops x i&&(Region.ready .any ops x).contains i&&closeOk7 ops C i&& !C.contains i&&p.ok7 ops C (x.setIfInBounds i true)
 |.qc i p,x=>Region.free .any ops x i&&(Region.ready .any ops x).contains i&&C.contains i&&p.ok7 ops C (x.setIfInBounds i true)
 |.l i p,x=>Region.ready .any ops x==[i]&&p.ok7 ops C (x.setIfInBounds i true)
 |.alt i p j r,x=>Region.ready .any ops x==[i,j]&&p.ok7 ops C (x.setIfInBounds i true)&&r.ok7 ops C (x.setIfInBounds j true)&&p.fuel==r.fuel
theorem Pl.sound7(m:Region.noSelect ops=true)(n:∀c a d v w,Q (.panic c) (Act.put a d v) w→Q (.panic c) a w) :
 ∀(t:Pl) (x:Array Bool) (a:Act) (w:World),Cl ops x→t.ok7 ops C x=true→t.wp P ops Q S C a w→wpC P ops Q S C t.fuel x a w
 |.nil,x,a,w,_,hp,h=>⟨by simpa[Pl.ok7]using hp,h⟩
 |.q i p,x,a,w,b,hp,h=>by
  obtain⟨o,v,u,F,I,K⟩:=h
  simp only[Pl.ok7,Bool.and_eq_true,Bool.not_eq_true']at hp
  obtain⟨⟨⟨⟨g,y⟩,B⟩,L⟩,J⟩:=hp
  have e:i∈Region.ready .any ops x:=by simpa using y
  refine Zm5 (T:=S) 9 u (Region.noSelect_spec m) (fun c a w=>n c a o.dst v w) (fun j oj w0 w' s G N H M=>?_) (fun _ _ h=>h) p.fuel x a w b (Region.free_spec u g) e F I (Pl.sound7 m n p _ _ w (Znz b e) J K)
  by_cases e:j∈C
  ·have:=List.all_eq_true.1 B j e
   rw[G,s]at this
   simp only[Bool.or_false]at this
   rw[N this]
   exact H
  ·exact M e
 |.qc i p,x,a,w,b,hp,h=>by
  obtain⟨o,v,u,F,K⟩:=h
  simp only[Pl.ok7,Bool.and_eq_true]at hp
  obtain⟨⟨⟨g,y⟩,B⟩,J⟩:=hp
  have e:i∈Region.ready .any ops x:=by simpa using y
  refine Zm5 (T:=fun _=>True) 9 u (Region.noSelect_spec m) (fun c a w=>n c a o.dst v w) (fun _ _ _ _ _ _ _ _ _=>trivial) (fun hn _ _=>absurd (by simpa using B) hn) p.fuel x a w b (Region.free_spec u g) e F trivial (Pl.sound7 m n p _ _ w (Znz b e) J K)
 |.l i p,x,a,w,b,hp,h=>by
  simp only[Pl.ok7,Bool.and_eq_true,beq_iff_eq]at hp
  refine⟨fun E=>by rw[E]at hp;exact absurd hp.1 (by simp),fun j s=>?_⟩
  have z:=s
  rw[hp.1]at s
  rw[Zv s]
  rw[Zv s]at z
  exact wpOp_mono (fun a' w' f=>⟨Zgb f.1,Pl.sound7 m n p _ a' w' (Znz b z) hp.2 f.2⟩) h
 |.alt i p j r,x,a,w,b,hp,h=>by
  simp only[Pl.ok7,Bool.and_eq_true,beq_iff_eq]at hp
  obtain⟨⟨⟨g,y⟩,B⟩,L⟩:=hp
  refine⟨fun E=>by rw[E]at g;exact absurd g (by simp),fun k D=>?_⟩
  have A:=D
  rw[g]at D
  simp only[List.mem_cons,List.not_mem_nil,or_false]at D
  rcases D with rfl|rfl
  ·exact wpOp_mono (fun a' w' f=>⟨Zgb f.1,Pl.sound7 m n p _ a' w' (Znz b A) y f.2⟩) h.1
  ·exact wpOp_mono (fun a' w' f=>⟨Zgb f.1,by have:=Pl.sound7 m n r _ a' w' (Znz b A) B f.2;rw[←L]at this;exact this⟩) h.2
theorem Zpj{id:Nat}{l:List Oper}{a:Act}(S0 S:World→Prop)(C:List Nat)(t:Pl)(f:P.follows .mixedOrders=true)(g:Region.noSelect l.toArray=true)(j:∀c a d v w,Q (.panic c) (Act.put a d v) w→Q (.panic c) a w)(b:t.fuel=l.length)(i:t.ok7 l.toArray C (Array.replicate l.length false)=true)(e:S0 w.drew∧S w.drew)(h:∀W,S0 W→S W→t.wp P l.toArray Q S C a W):(Code.region id l.toArray true).wp P Q a w:=by
 refine wp_region_any f (Zi6 (S:=S) (C:=C) _ _ _ _ ?_);have:=Pl.sound7 (P:=P) (S:=S) (C:=C) g j t (Array.replicate l.length false) a w.drew (cl_start _) i (h _ e.1 e.2);rw[b]at this;simpa using this
end
theorem pq{C:List Nat}{p:Pl}{a:Act}(d:S w:=by assumption)(b:ops[i]?=some o:=by exact rfl)(c:Region.wanted o (yielded ops a.tmps)=true:=by exact rfl)(h:∃v,(∀w,S w→(execOp a.eval o).run P w=.ok (.value v) w)∧p.wp P ops Q S C (a.put o.dst v) w):Pl.wp P ops Q S C (.q i p) a w:=pl_q d b c h
theorem pc{C:List Nat}{p:Pl}{a:Act}(b:ops[i]?=some o:=by exact rfl)(c:Region.wanted o (yielded ops a.tmps)=true:=by exact rfl)(h:∃v,(∀w,True→(execOp a.eval o).run P w=.ok (.value v) w)∧p.wp P ops Q S C (a.put o.dst v) w):Pl.wp P ops Q S C (.qc i p) a w:=pl_qc b c h
theorem ps{C:List Nat}{p:Pl}{a:Act}(d:S w:=by assumption)(b:ops[i]?=some o:=by exact rfl)(c:Region.wanted o (yielded ops a.tmps)=false:=by exact rfl)(h:p.wp P ops Q S C (a.put o.dst undef) w):Pl.wp P ops Q S C (.q i p) a w:=Zw1 d b c h
namespace Qa
theorem Zq{C:List Nat}{p:Pl}{a:Act}(h:p.wp P ops Q S C (a.put o.dst v) w)(b:S w:=by assumption)(c:ops[i]?=some o:=by exact rfl)(d:(Region.wanted o (yielded ops a.tmps)=true∧∀w,S w→(execOp a.eval o).run P w=.ok (.value v) w)∨(Region.wanted o (yielded ops a.tmps)=false∧v=undef):=by first|exact .inl ⟨rfl,by intro w b;go_simp;exact rfl⟩|exact .inr ⟨rfl,rfl⟩):Pl.wp P ops Q S C (.q i p) a w :=
 d.elim (fun g=>pl_q b c g.1 ⟨_,g.2,h⟩) (fun g=>Zw1 b c g.1 (g.2▸h))
end Qa
namespace Qb
theorem Zq{C:List Nat}{p:Pl}{a:Act}(h:p.wp P ops Q S C (a.put o.dst v) w)(c:ops[i]?=some o:=by exact rfl)(d:Region.wanted o (yielded ops a.tmps)=true:=by exact rfl)(b:∀w,True→(execOp a.eval o).run P w=.ok (.value v) w:=by intro w _;go_simp;exact rfl):Pl.wp P ops Q S C (.qc i p) a w:=pl_qc c d ⟨_,b,h⟩
theorem Zd{C:List Nat}{R:Act→World→Prop}{a:Act}(h:∀K:Act→World→Prop,Shut (∀a' w',S w'→(S w'→R a' w')→K a' w')→Oper.wp P o a w K Q)(b:ops[i]?=some o:=by exact rfl)(c:Region.wanted o (yielded ops a.tmps)=true:=by exact rfl):wpOp P ops Q i (fun a' w'=>owed S C i w'∧R a' w') a w:=op_do b c h
theorem Zc{C:List Nat}{R:Act→World→Prop}{a:Act}(h:∀K:Act→World→Prop,Shut (∀a' w',R a' w'→K a' w')→Oper.wp P o a w K Q)(b:ops[i]?=some o:=by exact rfl)(c:Region.wanted o (yielded ops a.tmps)=true:=by exact rfl)(d:C.contains i=true:=by exact rfl):wpOp P ops Q i (fun a' w'=>owed S C i w'∧R a' w') a w:=Zz7 b c d h
end Qb
namespace Qc
theorem Zq{C:List Nat}{p:Pl}{a:Act}(h:p.wp P ops Q S C (a.put o.dst undef) w)(d:S w:=by assumption)(b:ops[i]?=some o:=by exact rfl)(c:Region.wanted o (yielded ops a.tmps)=false:=by exact rfl):Pl.wp P ops Q S C (.l i p) a w:=Zz0 d b c h
end Qc
theorem Zt{id:Nat}{l:List Oper}{a:Act}(S0 S:World→Prop)(C:List Nat)(t:Pl)(g:S0 w.drew∧S w.drew)(h:∀W,S0 W→S W→t.wp P l.toArray Q S C a W)(e:P.follows .mixedOrders=true:=by kernel_rfl)(f:Region.noSelect l.toArray=true:=by kernel_rfl)(i:∀c a d v w,Q (.panic c) (Act.put a d v) w→Q (.panic c) a w:=by(intro _ _ d _ _ h;cases d<;>exact h))(b:t.fuel=l.length:=by exact rfl)(hp:t.ok7 l.toArray C (Array.replicate l.length false)=true:=by kernel_rfl):(Code.region id l.toArray true).wp P Q a w:=Zpj S0 S C t e f i b hp g h
theorem Zs{id:Nat}{l:List Oper}{a:Act}(S:World→Prop)(C:List Nat)(t:Pl)(g:S w.drew)(h:∀W,S W→t.wp P l.toArray Q S C a W)(e:P.follows .mixedOrders=true:=by kernel_rfl)(f:Region.noSelect l.toArray=true:=by kernel_rfl)(i:∀c a d v w,Q (.panic c) (Act.put a d v) w→Q (.panic c) a w:=by(intro _ _ d _ _ h;cases d<;>exact h))(b:t.fuel=l.length:=by exact rfl)(hp:t.ok7 l.toArray C (Array.replicate l.length false)=true:=by kernel_rfl):(Code.region id l.toArray true).wp P Q a w:=Zt (fun _=>True) S C t ⟨trivial,g⟩ (fun W _=>h W) e f i b hp
theorem Zr{id:Nat}{l:List Oper}{a:Act}(C:List Nat)(t:Pl)(h:∀W,Below w.heap.size w W→t.wp P l.toArray Q (fun w'=>Below w.heap.size w w') C a W)(e:P.follows .mixedOrders=true:=by kernel_rfl)(g:Region.noSelect l.toArray=true:=by kernel_rfl)(f:∀c a d v w,Q (.panic c) (Act.put a d v) w→Q (.panic c) a w:=by(intro _ _ d _ _ h;cases d<;>exact h))(b:t.fuel=l.length:=by exact rfl)(hp:t.ok7 l.toArray C (Array.replicate l.length false)=true:=by kernel_rfl):(Code.region id l.toArray true).wp P Q a w:=Zs _ C t (Zad _) h e g f b hp
namespace Ln
def allD(l:List UInt8):Prop:=∀c∈l,48≤c.toNat∧c.toNat≤57
def val(l:List UInt8):Nat:=l.foldl (fun a c=>10*a+(c.toNat-48)) 0
theorem Zkn(l:List UInt8)(c:UInt8):val (l++[c])=10*val l+(c.toNat-48):=by unfold val;rw[List.foldl_append];rfl
theorem val_lt(l:List UInt8)(h:allD l):val l<10^l.length:=by
 obtain⟨r,rfl⟩:∃r,l=r.reverse:=⟨l.reverse,by simp⟩
 induction r with
 |nil=>decide
 |cons c r ih =>
  rw[List.reverse_cons]at h⊢;have b:=h c (by simp);have:=ih (fun x a=>h x (by simp at a ⊢;exact .inl a));rw[Zkn,Zl,List.length_singleton,Nat.pow_succ];omega
def numF:Nat→List UInt8→Int
 |a,[]=>a
 |a,c::r=>if 48≤c.toNat∧c.toNat≤57 then numF (min (10*a+(c.toNat-48)) 1000000) r else -1
def numR(l:List UInt8):Int:=if l.length=0∨(1<l.length∧l.head?=some 48)then -1 else numF 0 l
def Zm0:List UInt8:=[57,50,50,51,51,55,50,48,51,54,56,53,52,55,55,53,56,48,55]
def great(l:List UInt8):Bool:=decide (19<l.length)||(decide (l.length=19)&& !(Op.bytesLess l Zm0||l==Zm0))
def numP(l:List UInt8):Option Int:=match Lib.atoiAll l with
 |.ok v=>if 0≤v∧Lib.itoa v=l then some v else none
 |_=>none
def canon(l:List UInt8):Prop:=allD l∧0<l.length∧(1<l.length→l.head?≠some 48)
theorem Zz9(l:List UInt8)(h:allD l):∀a,numF (min a 1000000) l=(min (l.foldl (fun a c=>10*a+(c.toNat-48)) a) 1000000:Nat):=by
 induction l with
 |nil=>intro a;rfl
 |cons c r ih =>
  intro a;have d:=h c (by simp);rw[numF,if_pos d,List.foldl_cons,←ih (fun x b=>h x (by simp[b]))]
  congr 1
  omega
theorem Ziz(n:Nat):canon (Lib.decDigits n)∧val (Lib.decDigits n)=n∧(10≤n→(Lib.decDigits n).head?≠some 48)∧(Lib.decDigits n).length≤n+1:=by
 induction n using Nat.strongRecOn with
 |_ n ih =>
  have dig:∀k,k<10→(UInt8.ofNat (48+k)).toNat=48+k:=fun k p=>by
   simp[UInt8.toNat_ofNat];omega
  by_cases h:n<10
  ·rw[Lib.decDigits,dif_pos h];refine⟨⟨fun c d=>?_,by simp,by simp⟩,?_,fun o=>by omega,by simp⟩
   ·obtain rfl:=Zv d;rw[dig _ h];omega
   ·show 10*0+((UInt8.ofNat (48+n)).toNat-48)=n;rw[dig _ h];omega
  ·rw[Lib.decDigits,dif_neg h];obtain⟨⟨j,g,q⟩,l,m,r⟩:=ih (n/10) (by omega)
   have a:(Lib.decDigits (n/10)).head?≠some 48:=by
    by_cases b:10≤n/10
    ·exact m b
    ·rw[Lib.decDigits,dif_pos (by omega)];intro e;rw[List.head?_cons]at e;injection e with e;have:=congrArg UInt8.toNat e;rw[dig _ (by omega)]at this;have i:(48:UInt8).toNat=48:=rfl;omega
   have f:(Lib.decDigits (n/10)++[UInt8.ofNat (48+n%10)]).head?≠some 48:=by
    rw[List.head?_append];cases hd:(Lib.decDigits (n/10)).head? with
    |none=>rw[List.head?_eq_none_iff]at hd;rw[hd]at g;simp at g
    |some x=>rw[hd]at a;simpa using a
   refine⟨⟨fun c d=>?_,by simp,fun _=>f⟩,?_,fun _=>f,?_⟩
   ·rcases List.mem_append.1 d with b|b
    ·exact j c b
    ·obtain rfl:=Zv b;rw[dig _ (by omega)];omega
   ·rw[Zkn,l,dig _ (by omega)];omega
   ·simp;omega
def fv(a:Nat)(l:List UInt8):Nat:=l.foldl (fun a c=>10*a+(c.toNat-48)) a
theorem Zh3(a:Nat)(c:UInt8)(l:List UInt8):fv a (c::l)=fv (10*a+(c.toNat-48)) l:=by unfold fv;rw[List.foldl_cons]
theorem Zxj(x:List UInt8):∀(y:List UInt8) (a b:Nat),x.length=y.length→allD x→allD y→a<b→fv a x<fv b y:=by
 induction x with
 |nil =>
  intro y a b h _ _ e;cases y with
  |nil=>exact e
  |cons d y=>simp at h
 |cons c x ih =>
  intro y a b h g i e;cases y with
  |nil=>simp at h
  |cons d y =>
   have j:=g c (by simp);have hd:=i d (by simp);rw[Zh3,Zh3];exact ih y _ _ (by simpa using h) (fun z f=>g z (by simp[f])) (fun z f=>i z (by simp[f])) (by omega)
theorem Zqi:∀(x y:List UInt8) (a:Nat),x.length=y.length→allD x→allD y→(Op.bytesLess x y=true↔fv a x<fv a y)
 |[],[],a,_,_,_=>by simp[Op.bytesLess,fv]
 |[],_::_,_,h,_,_=>by simp at h
 |_::_,[],_,h,_,_=>by simp at h
 |c::x,d::y,a,h,m,n=>by
  have k:x.length=y.length:=by simpa using h
  have p:=m c (by simp)
  have hd:=n d (by simp)
  have f:allD x:=fun z j=>m z (by simp[j])
  have b:allD y:=fun z j=>n z (by simp[j])
  rw[Zh3,Zh3]
  rcases Nat.lt_trichotomy c.toNat d.toNat with g|g|g
  ·have:=Zxj x y (10*a+(c.toNat-48)) (10*a+(d.toNat-48)) k f b (by omega)
   simp only[this,iff_true]
   simp[Op.bytesLess,UInt8.lt_iff_toNat_lt,g]
  ·have i:c=d:=UInt8.toNat_inj.1 g
   subst i
   rw[←Zqi x y (10*a+(c.toNat-48)) k f b]
   simp[Op.bytesLess,UInt8.lt_iff_toNat_lt]
  ·have:=Zxj y x (10*a+(d.toNat-48)) (10*a+(c.toNat-48)) k.symm b f (by omega)
   have l:c≠d:=fun e=>by rw[e]at g;omega
   constructor
   ·intro o
    simp[Op.bytesLess,UInt8.lt_iff_toNat_lt,l]at o
    omega
   ·intro o;omega
theorem val_inj{x y:List UInt8}(a:x.length=y.length)(b:allD x)(e:allD y)(h:val x=val y):x=y:=by
 obtain⟨r,rfl⟩:∃r,x=r.reverse:=⟨x.reverse,by simp⟩;obtain⟨s,rfl⟩:∃s,y=s.reverse:=⟨y.reverse,by simp⟩
 induction r generalizing s with
 |nil=>cases s with
  |nil=>rfl
  |cons d s=>simp at a
 |cons c r ih=>cases s with
  |nil=>simp at a
  |cons d s =>
   rw[List.reverse_cons]at b e a h⊢;rw[List.reverse_cons]at a h⊢;rw[Zkn,Zkn]at h;have g:=b c (by simp);have hd:=e d (by simp);have e1:val r.reverse=val s.reverse:=by omega
   have e2:c.toNat=d.toNat:=by omega
   rw[UInt8.toNat_inj.1 e2,ih (fun z f=>b z (List.mem_append_left _ f)) s (fun z f=>e z (List.mem_append_left _ f)) (by simpa using a) e1]
theorem Zxy(l:List UInt8)(h:canon l):great l=decide (9223372036854775807<val l):=by
 obtain⟨g,v,p⟩:=h;have u:=val_lt l g;have m:allD Zm0:=by intro c s;revert c;decide
 have i:val Zm0=9223372036854775807:=by decide
 unfold great
 rcases Nat.lt_trichotomy l.length 19 with b|b|b
 ·have:10^l.length≤10^18:=Nat.pow_le_pow_right (by decide) (by omega);rw[decide_eq_false (by omega),decide_eq_false (by omega),decide_eq_false (by omega)];rfl
 ·rw[decide_eq_false (by omega),decide_eq_true b,Bool.true_and,Bool.false_or];have n:Op.bytesLess l Zm0=true↔val l<val Zm0:=Zqi l Zm0 0 b g m;rw[Bool.eq_iff_iff];simp only[Bool.not_eq_true',Bool.or_eq_false_iff,beq_eq_false_iff_ne,ne_eq,decide_eq_true_eq];constructor
  ·rintro⟨q1,q2⟩;have:¬val l<val Zm0:=fun e=>by rw[n.2 e]at q1;cases q1
   have:val l≠val Zm0:=fun e=>q2 (val_inj b g m e)
   omega
  ·intro q;refine⟨?_,fun e=>by rw[e,i]at q;omega⟩;cases hb:Op.bytesLess l Zm0
   ·rfl
   ·have:=n.1 hb;omega
 ·rw[decide_eq_true b,Bool.true_or]
  symm
  rw[decide_eq_true_eq];cases l with
  |nil=>simp at b
  |cons c r =>
   have s:=g c (by simp);have t:c.toNat≠48:=fun e=>p (by simp at b ⊢;omega) (by simp;exact UInt8.toNat_inj.1 e)
   have grow:∀(r:List UInt8) (a:Nat),a*10^r.length≤fv a r:=by
    intro r
    induction r with
    |nil=>intro a;simp[fv]
    |cons d r ih =>
     intro a;rw[Zh3];refine Zg ?_ (ih _);rw[Zu,Nat.pow_succ,Nat.mul_comm (10^r.length) 10,←Nat.mul_assoc];exact Nat.mul_le_mul_right _ (by omega)
   have o:=grow r (c.toNat-48);have hp:10^19≤10^r.length:=Nat.pow_le_pow_right (by decide) (by simp at b;omega);have f:1*10^r.length≤(c.toNat-48)*10^r.length:=Nat.mul_le_mul_right _ (by omega);have k:val (c::r)=fv (c.toNat-48) r:=by show fv (10*0+(c.toNat-48)) r=_;rw[Nat.mul_zero,Nat.zero_add]
   rw[k];have j:(10:Nat)^19=10000000000000000000:=by decide
   rw[j]at hp;rw[Nat.one_mul]at f;exact Nat.lt_of_lt_of_le (by decide) (Zg hp (Zg f o))
theorem fv_mono(r:List UInt8):∀a:Nat,a≤fv a r:=by
 induction r with
 |nil=>intro a;exact Za _
 |cons d r ih=>intro a;rw[Zh3];exact Zg (by omega) (ih _)
theorem Zw5(l:List UInt8):∀a:Nat,allD l→fv a l<18446744073709551616→Lib.parseUint10 a l=.ok (fv a l):=by
 induction l with
 |nil=>intro a _ _;rfl
 |cons c r ih =>
  intro a h b;have e:=h c (by simp);rw[Zh3]at b⊢;have:=fv_mono r (10*a+(c.toNat-48));rw[Lib.parseUint10,if_pos e,if_neg (by omega),if_neg (by omega),show a*10+(c.toNat-48)=10*a+(c.toNat-48) by omega];exact ih _ (fun x d=>h x (by simp[d])) b
theorem atoi_dec(l:List UInt8)(h:canon l)(d:val l≤9223372036854775807):Lib.atoiAll l=.ok (val l):=by
 obtain⟨a,b,e⟩:=h;cases l with
 |nil=>simp at b
 |cons c r =>
  have f:=a c (by simp);rw[Lib.atoiAll_plain c r (by omega) (by omega)]
  have:Lib.parseMag (c::r)=.ok (val (c::r)):=by
   unfold Lib.parseMag;rw[if_neg (by simp)];exact Zw5 _ _ a (show val (c::r)<_ by omega)
  rw[this];show(if 9223372036854775808≤val (c::r)then Lib.NumEnd.range else .ok ((val (c::r):Nat):Int))=_;rw[if_neg (by omega)]
theorem Zz8(l:List UInt8)(v:Int)(h:numP l=some v):0≤v∧v≤9223372036854775807∧numR l=min v 1000000∧great l=false:=by
 unfold numP at h;cases ha:Lib.atoiAll l with
 |ok u =>
  rw[ha]at h;simp only at h;split at h
  ·rename_i f;injection h with h;subst h;obtain⟨q1,q2⟩:=f;have g:=Lib.atoiAll_bounds ha
   have hd:Lib.decDigits u.toNat=l:=by
    rw[←q2];unfold Lib.itoa;rw[if_neg (by omega)]
   obtain⟨b,d,_⟩:=Ziz u.toNat;rw[hd]at b d;refine⟨q1,g.2,?_,?_⟩
   ·unfold numR;rw[if_neg (fun e=>e.elim (fun e=>by have:=b.2.1;omega) (fun e=>b.2.2 e.1 e.2))];have:=Zz9 l b.1 0;rw[show min 0 1000000=0 from rfl]at this;rw[this];have:l.foldl (fun a c=>10*a+(c.toNat-48)) 0=u.toNat:=d;rw[this];omega
   ·rw[Zxy l b,decide_eq_false (by omega)]
  ·cases h
 |_=>rw[ha]at h;cases h
def fst1(c:UInt8)(l:List UInt8):Nat:=l.findIdx (·==c)
theorem Zfh(c:UInt8)(l:List UInt8):fst1 c (c::l)=0:=by unfold fst1;rw[List.findIdx_cons];simp
theorem Zfg{c b:UInt8}(l:List UInt8)(h:b≠c):fst1 c (b::l)=fst1 c l+1:=by
 have a:(b==c)=false:=by simpa using h
 unfold fst1;rw[List.findIdx_cons,a];rfl
theorem Zqp(c:UInt8)(l:List UInt8):Lib.index l [c]=if fst1 c l<l.length then(fst1 c l:Int)else -1:=by
 induction l with
 |nil=>rfl
 |cons b l ih =>
  by_cases h:b=c
  ·subst h;rw[Zfh,if_pos (by simp)];unfold Lib.index;rw[if_pos (by simp)];rfl
  ·rw[Zfg l h];unfold Lib.index;rw[if_neg (by simp;exact fun e=>h e.symm),ih]
   by_cases a:fst1 c l<l.length
   ·rw[if_pos a,if_pos (show fst1 c l+1<(b::l).length by simp;omega),if_neg (show ¬(((fst1 c l:Nat):Int)== -1)=true by simp<;>omega)]
    omega
   ·rw[if_neg a,if_neg (show ¬fst1 c l+1<(b::l).length by simp;omega)];rfl
def spl(c:UInt8):List UInt8→List (List UInt8)
 |[]=>[[]]
 |b::l=>if b=c then []::spl c l else match spl c l with
  |h::t=>(b::h)::t
  |[]=>[[b]]
theorem spl_ne(c:UInt8)(l:List UInt8):spl c l≠[]:=by
 cases l with
 |nil=>simp[spl]
 |cons b l =>
  unfold spl;split
  ·simp
  ·split<;>simp
theorem Zzn(c:UInt8)(l:List UInt8)(h:¬fst1 c l<l.length):spl c l=[l]:=by
 induction l with
 |nil=>rfl
 |cons b l ih =>
  by_cases a:b=c
  ·subst a;rw[Zfh]at h;simp at h
  ·rw[Zfg l a]at h;unfold spl;rw[if_neg a,ih (by simp at h;omega)]
theorem spl_hit(c:UInt8)(l:List UInt8)(h:fst1 c l<l.length):spl c l=l.take (fst1 c l)::spl c (l.drop (fst1 c l+1)):=by
 induction l with
 |nil=>simp[fst1]at h
 |cons b l ih =>
  by_cases a:b=c
  ·subst a;rw[Zfh];simp[spl]
  ·rw[Zfg l a]at h⊢;have:=ih (by simpa using h)
   conv=>lhs;unfold spl
   rw[if_neg a,this];simp
def mkS(l:List UInt8):ByteArray:=⟨l.toArray⟩
theorem Zdp(s:ByteArray):mkS s.data.toList=s:=rfl
theorem Zfk(l:List UInt8):(mkS l).data.toList=l:=rfl
theorem Zcn(l:List UInt8):(mkS l).size=l.length:=rfl
theorem Zng(c:UInt8)(s:ByteArray):Lib.splitB (mkS [c]) 0 (Lib.countB s (mkS [c])) s=(spl c s.data.toList).map mkS:=by
 obtain⟨n,hn⟩:∃n,n=s.size:=⟨_,rfl⟩
 induction n using Nat.strongRecOn generalizing s with
 |_ n ih =>
  subst hn;have hi:Lib.indexB s (mkS [c])=if fst1 c s.data.toList<s.data.toList.length then(fst1 c s.data.toList:Int)else -1:=Zqp c s.data.toList
  by_cases h:fst1 c s.data.toList<s.data.toList.length
  ·rw[if_pos h]at hi;have e:s.data.toList.length=s.size:=Array.length_toList;have d:=Lib.countB_hit s (mkS [c]) _ (by simp[Zcn]) hi;have e1:(s.extract (fst1 c s.data.toList+(mkS [c]).size) s.size).data.toList=s.data.toList.drop (fst1 c s.data.toList+1):=Lib.extract_to_end s _
   have a:(s.extract (fst1 c s.data.toList+(mkS [c]).size) s.size).size<s.size:=by
    have:(s.extract (fst1 c s.data.toList+(mkS [c]).size) s.size).size=(s.data.toList.drop (fst1 c s.data.toList+1)).length:=by rw[←e1];exact Array.length_toList.symm
    rw[this,List.length_drop];omega
   have b:=ih _ a _ rfl;rw[d,Nat.add_comm 1,Lib.splitB_hit _ _ _ _ _ hi,spl_hit c _ h,List.map_cons,b,e1]
   congr 1
   rw[Nat.add_zero,←Zdp (s.extract 0 _),Lib.extract_from_zero]
  ·rw[if_neg h]at hi;rw[Lib.splitB_miss _ _ _ _ hi,Zzn c _ h];rfl
theorem Zvj(c:UInt8)(s:ByteArray):Lib.countB s (mkS [c])+1=(spl c s.data.toList).length:=by
 rw[←List.length_map (f:=mkS),←Zng,Lib.splitB_all _ (by simp[Zcn]) 0 _ s rfl]
theorem cut_one(c:UInt8)(l:List UInt8):Lib.cut l [c]=if fst1 c l<l.length then(l.take (fst1 c l),l.drop (fst1 c l+1),true)else(l,[],false):=by
 unfold Lib.cut;rw[Zqp]
 by_cases h:fst1 c l<l.length
 ·rw[if_pos h,if_pos h,if_pos (by omega)];rfl
 ·rw[if_neg h,if_neg h,if_neg (by omega)]
def hexd(n:Nat):UInt8:=if n<10 then UInt8.ofNat (48+n)else UInt8.ofNat (87+n)
def hexL(l:List UInt8):List UInt8:=l.flatMap fun b=>[hexd (b.toNat/16),hexd (b.toNat%16)]
def Zx8:List UInt8:=[48,49,50,51,52,53,54,55,56,57,97,98,99,100,101,102]
def hexv(c:UInt8):Option Nat:=if 48≤c.toNat∧c.toNat≤57 then some (c.toNat-48)else if 97≤c.toNat∧c.toNat≤102 then some (c.toNat-87)else none
theorem Zsk{p:UInt8→Prop}[DecidablePred p](h:∀n:Fin 256,p (UInt8.ofNat n.val))(c:UInt8):p c:=by
 have:=h ⟨c.toNat,UInt8.toNat_lt c⟩;simpa using this
theorem Zkg(c:UInt8):Lib.indexByte Zx8 c=match hexv c with|some k=>(k:Int)|none=> -1 :=
 Zsk (p:=fun c=>Lib.indexByte Zx8 c=match hexv c with|some k=>(k:Int)|none=> -1) (by decide +kernel) c
theorem Zxu{c:UInt8}(h:hexv c=some k):k<16:=by
 unfold hexv at h;split at h
 ·injection h with h;omega
 ·split at h
  ·injection h with h;omega
  ·cases h
def Zbx:List UInt8→Option (List UInt8)
 |[]=>some []
 |[_]=>none
 |a::b::r=>match hexv a,hexv b,Zbx r with
  |some h,some l,some t=>some (UInt8.ofNat (16*h+l)::t)
  |_,_,_=>none
theorem Zpl:∀l:List UInt8,l.length%2=1→Zbx l=none
 |[],h=>by simp at h
 |[_],_=>rfl
 |a::b::r,h=>by
  have:=Zpl r (by simp at h;omega)
  unfold Zbx
  rw[this]
  split<;>simp_all
theorem Zm7(l:List UInt8)(i:Nat)(h:i+1<l.length):Zbx (l.drop i)=match hexv l[i],hexv l[i+1],Zbx (l.drop (i+2))with
 |some h,some l,some t=>some (UInt8.ofNat (16*h+l)::t)
 |_,_,_=>none:=by
 rw[List.drop_eq_getElem_cons (by omega),List.drop_eq_getElem_cons (i:=i+1) h];rfl
theorem Zv8(l:List UInt8)(i:Nat)(h:l.length≤i):Zbx (l.drop i)=some []:=by
 rw[List.drop_eq_nil_of_le h];rfl
structure Ac where
 kind:Int
 node:Int
 pick:Int
 text:ByteArray
def actE(a:Ac):Int:=actF a.kind a.node a.pick a.text
def Zkz:List (List UInt8):=[[],[115,117,98,109,105,116],[119,111,114,107],[115,121,110,99],[116,97,107,101],[108,111,115,101],[99,111,112,121],[99,114,97,115,104],[115,116,97,114,116],[102,111,114,103,101],[102,108,111,119]]
def Ze9(k:Nat):List UInt8:=(Zkz[k]?).getD []
def Zhr(p:List UInt8):Nat→Int
 |0=>0
 |k+1=>if 0<k∧Ze9 k=p then(k:Int)else Zhr p k
def Zfx(p:List UInt8):Int:=Zhr p 11
theorem Znq(p:List UInt8):∀k,0≤Zhr p k∧Zhr p k<max k 1
 |0=>⟨Int.le_refl _,by show(0:Int)<1;decide⟩
 |k+1=>by
  have:=Znq p k
  unfold Zhr
  split<;>omega
theorem Zu5(p:List UInt8):0≤Zfx p∧Zfx p≤10:=by
 have:=Znq p 11;unfold Zfx;omega
def Zfd(k:Int):Nat:=(if hN k then 1 else 0)+((if hP k then 1 else 0)+(if hT k then 1 else 0))
def Zry(f:List UInt8→Option Int)(k:Int)(r:List (List UInt8)):Option Int:=if hN k then f (r.getD 0 [])else some 0
def Zrr(f:List UInt8→Option Int)(k:Int)(r:List (List UInt8)):Option Int:=if hP k then f (r.getD (if hN k then 1 else 0) [])else some 0
def Zps(k:Int)(r:List (List UInt8)):Option (List UInt8):=if hT k then Zbx (r.getD 1 [])else some []
def actR(f:List UInt8→Option Int)(k:Int)(r:List (List UInt8)):Option Ac :=
 match Zry f k r,Zrr f k r,Zps k r with
 |some n,some p,some t=>some ⟨k,n,p,mkS t⟩
 |_,_,_=>none
def lineG(f:List UInt8→Option Int)(l:List UInt8):Option Ac :=
 if Zfx ((spl 32 l).headD [])=0∨((spl 32 l).drop 1).length≠Zfd (Zfx ((spl 32 l).headD []))then none
 else actR f (Zfx ((spl 32 l).headD [])) ((spl 32 l).drop 1)
def readG(g:List UInt8→Option Ac):Nat→Nat→List UInt8→List Ac→List Ac×Nat×Int
 |0,_,_,out=>(out,0,0)
 |n+1,i,l,out =>
  if l=[]then(out,0,0)
  else if i=3000 then([],i,1)
  else if ¬fst1 10 l<l.length then([],i,4)
  else match g (l.take (fst1 10 l))with
   |none=>([],i,4)
   |some a=>if actE a=0 then readG g n (i+1) (l.drop (fst1 10 l+1)) (out++[a])else([],i,actE a)
def decL(n:Int):List UInt8:=Lib.decDigits n.toNat
def lineL(a:Ac):List UInt8:=Ze9 a.kind.toNat++((if hN a.kind then 32::decL a.node else [])++((if hP a.kind then 32::decL a.pick else [])++((if hT a.kind then 32::hexL a.text.data.toList else [])++[10])))
def showL(l:List Ac):List UInt8:=l.flatMap lineL
def badI(l:List Ac):Nat:=l.findIdx fun a=>actE a != 0
def Zrn(l:List Ac):List UInt8×Nat×Int :=
 if 3000<l.length then([],0,1)else if badI l<l.length then([],badI l,match l[badI l]? with|some a=>actE a|none=>0)else(showL l,0,0)
end Ln
end Go.Proofs.YtbcpbnfojfiekaaGreatDoor
