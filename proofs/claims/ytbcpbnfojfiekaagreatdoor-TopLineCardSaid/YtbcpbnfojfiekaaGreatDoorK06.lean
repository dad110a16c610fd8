/- A part of what the last text stands on. -/
import Derived.LaidMore
import Derived.Stop.Joined
import Derived.Lib.LaidTab
import Derived.Test.YtbcpbnfojfiekaaGreatDoorK05
namespace Go.Proofs.YtbcpbnfojfiekaaGreatDoor
open Go.ChangeShapes Go.WideShapes Go.ChangeAt Go.RowKit Go.Proofs.Tryz Qa Qb Qc
set_option linter.all false
set_option maxHeartbeats 20000000
set_option maxRecDepth 100000
variable{P:Program}{w w' W wr:World}{a:Act}{ops:Array Oper}{rest:List Oper}{Q:Exit→Act→World→Prop}{K:Act→World→Prop}{v:Value}{A:Option Addr}{h:View}{e:TypeId}{k i j g sz bs b c:Nat}{y:Operand}{α:Type}{xs:List α}{R:View→List Value→α→Prop}
namespace Fl
abbrev Own:=Nat→Option (Nat×Nat)
def Zas(o:Own)(w:World):View:=fun a=>if (o a.block).isSome then none else w.cell? a
theorem Zah(o:Own)(w:World):VLe (Zas o w) w.cell?:=fun a v e=>by
 unfold Zas at e
 split at e
 ·cases e
 ·exact e
structure Lim (o:Own) (w:World):Prop where
 none:∀b,w.heap.size≤b→o b=none
 seven:∀b k,o b=some (7,k)→k=b
structure Fr (T:Nat×Nat→Prop) (o:Own) (w:World) (o':Own) (w':World):Prop where
 os:w'.os=w.os
 tape:w'.tape=w.tape
 output:w'.output=w.output
 size:w.heap.size≤w'.heap.size
 lim:Lim o' w'
 keep:∀b,b<w.heap.size→(∀t,o b=some t→¬T t)→o' b=o b∧w'.heap[b]?=w.heap[b]?
 stay:∀b t,b<w.heap.size→o b=some t→T t→∃t',o' b=some t'∧T t'
section
variable {T T':Nat×Nat→Prop} {o o' o2:Own} {w w' w2:World}
theorem Fr.refl(T:Nat×Nat→Prop)(a:Lim o w):Fr T o w o w :=
 ⟨rfl,rfl,rfl,Za _,a,fun _ _ _=>⟨rfl,rfl⟩,fun _ t _ h ht=>⟨t,h,ht⟩⟩
theorem Fr.view(h:Fr T o w o' w'):VLe (Zas o w) (Zas o' w'):=fun a v e=>by
 unfold Zas at e⊢
 split at e
 ·cases e
 ·rename_i hn
  have b:=World.block_lt_of_cell? w a e
  have c:o a.block=none:=by simpa using hn
  obtain⟨d,f⟩:=h.keep a.block b (fun t ht=>by rw[c]at ht;cases ht)
  rw[if_neg (by rw[d,c];simp),World.cell?_of_block f]
  exact e
theorem Fr.trans(h:Fr T o w o' w')(k:Fr T' o' w' o2 w2)(hT:∀t,T' t→T t∨(t.1=7∧w.heap.size≤t.2)):Fr T o w o2 w2:=by
 have g:∀b t,b<w.heap.size→o' b=some t→T' t→T t:=fun b t c d ht=>by
  rcases hT t ht with a|⟨a,f⟩
  ·exact a
  ·obtain⟨t1,t2⟩:=t;simp at a f;subst a;have:=h.lim.seven b t2 d;omega
 refine⟨k.os.trans h.os,k.tape.trans h.tape,k.output.trans h.output,Zg h.size k.size,k.lim,fun b c hn=>?_,fun b t c d ht=>?_⟩
 ·obtain⟨a,f⟩:=h.keep b c hn;obtain⟨k1,k2⟩:=k.keep b (Nat.lt_of_lt_of_le c h.size) (fun t ht e=>hn t (by rw[←a];exact ht) (g b t c ht e));exact⟨k1.trans a,k2.trans f⟩
 ·obtain⟨t',a,f⟩:=h.stay b t c d ht
  by_cases i:T' t'
  ·obtain⟨t2,k1,k2⟩:=k.stay b t' (Nat.lt_of_lt_of_le c h.size) a i
   by_cases j:∃k7,t2=(7,k7)
   ·obtain⟨k7,rfl⟩:=j
    rcases hT _ k2 with q|⟨_,q⟩
    ·exact⟨_,k1,q⟩
    ·have:=k.lim.seven b k7 k1;simp at q;omega
   ·rcases hT _ k2 with q|⟨q,_⟩
    ·exact⟨_,k1,q⟩
    ·exact absurd ⟨t2.2,by rw[←q]⟩ j
  ·obtain⟨k1,_⟩:=k.keep b (Nat.lt_of_lt_of_le c h.size) (fun t ht e=>by rw[a]at ht;injection ht with ht;subst ht;exact i e);exact⟨t',k1.trans a,f⟩
theorem Fr.mono(h:Fr T o w o' w')(hT:∀t,T t→T' t):Fr T' o w o' w':=by
 refine⟨h.os,h.tape,h.output,h.size,h.lim,fun b d hn=>h.keep b d (fun t ht c=>hn t ht (hT t c)),fun b t d a ht=>?_⟩
 by_cases f:T t
 ·obtain⟨t',e,g⟩:=h.stay b t d a f;exact⟨t',e,hT _ g⟩
 ·obtain⟨e,_⟩:=h.keep b d (fun t' ht c=>by rw[a]at ht;injection ht with ht;subst ht;exact f c);exact⟨t,e.trans a,ht⟩
theorem Fr.of_below(c:Lim o w)(a:Below w.heap.size w w'):Fr T o w o w' :=
 ⟨a.os,a.tape,a.output,a.size,⟨fun b h=>c.none b (Zg a.size h),c.seven⟩,fun b h _=>⟨rfl,a.block b h⟩,fun _ t _ h ht=>⟨t,h,ht⟩⟩
theorem Zaf(a:Lim o w)(b:Below w.heap.size w w'):VLe (Zas o w) (Zas o w'):=(Fr.of_below (T:=fun _=>False) a b).view
theorem Zbz(b:Lim o w):VLe (View.from w'.cell? w.heap.size) (Zas o w'):=fun a v e=>by
 unfold View.from at e
 unfold Zas
 split at e
 ·cases e
 ·rename_i hn
  rw[if_neg (by rw[b.none a.block (by omega)];simp)]
  exact e
def mark(o:Own)(b:Nat)(t:Option (Nat×Nat)):Own:=fun k=>if k=b then t else o k
theorem Zc9(o:Own)(b:Nat)(t:Option (Nat×Nat)):mark o b t b=t:=if_pos rfl
theorem Zb1(o:Own)(t:Option (Nat×Nat))(h:k≠b):mark o b t k=o k:=if_neg h
theorem Lim.mark{b:Nat}{t:Option (Nat×Nat)}(a:Lim o w)(d:b<w.heap.size)(ht:∀k,t=some (7,k)→k=b):Lim (mark o b t) w:=by
 refine⟨fun k c=>?_,fun k j h=>?_⟩
 ·rw[Zb1 _ _ (by omega)];exact a.none k c
 ·unfold Fl.mark at h;split at h
  ·rename_i e;subst e;exact ht j h
  ·exact a.seven k j h
theorem Fr.alloc_mark(f:Lim o w)(x:Obj)(t:Option (Nat×Nat))(ht:∀k,t=some (7,k)→k=w.heap.size):Fr T o w (mark o w.heap.size t) (w.alloc x):=by
 have e:=Zac w x;have d:=Fr.of_below (T:=T) f e;refine⟨rfl,rfl,rfl,e.size,d.lim.mark (by simp) ht,fun b a hn=>?_,fun b t' a c hT=>⟨t',by rw[Zb1 _ _ (by omega)];exact c,hT⟩⟩;rw[Zb1 _ _ (by omega)];exact d.keep b a hn
theorem Fr.grown{t:Nat×Nat}(c:Lim o w)(a:w.grownBy w' (some g))(d:o g=some t)(ht:T t):Fr T o w o w':=by
 refine⟨a.os,a.tape,a.output,a.size,⟨fun b h=>c.none b (Zg a.size h),c.seven⟩,fun b f hn=>⟨rfl,a.block b f (fun e=>?_)⟩,fun _ t _ h ht=>⟨t,h,ht⟩⟩;injection e with e;subst e;exact hn t d ht
structure Row {α:Type} (o:Own) (t:Nat×Nat) (sz:Nat) (R:View→List Value→α→Prop) (e:TypeId) (w:World) (v:Value) (xs:List α):Prop where
 own:∃css:List (List Value),w.ownsRow 0 e sz v xs.length css.flatten∧css.length=xs.length∧∀i (hi:i<xs.length),∃cs,css[i]?=some cs∧cs.length=sz∧R (Zas o w) cs xs[i]
 mark:∀g,v.ownBlock=some g→o g=some t
variable {α:Type} {sz:Nat} {R:View→List Value→α→Prop} {e:TypeId} {v:Value} {xs:List α} {t:Nat×Nat}
theorem Row.nil(o:Own)(t:Nat×Nat)(sz:Nat)(R:View→List Value→α→Prop)(e:TypeId)(w:World):Row o t sz R e w (.slice none 0 0) [] :=
 ⟨⟨[],World.ownsRow_nil _ _ _ _,rfl,fun i hi=>by simp at hi⟩,fun g a=>by cases a⟩
theorem Row.ownSl(h:Row o t sz R e w v xs):OwnSl sz (fun _ cs x=>R (Zas o w) cs x) e w 0 v xs:=⟨h.own⟩
theorem Row.form(h:Row o t sz R e w v xs):∃A c,v=.slice A xs.length c:=h.ownSl.form
theorem Row.fr(k:Mono R)(h:Row o t sz R e w v xs)(f:Fr T o w o' w')(ht:¬T t):Row o' t sz R e w' v xs:=by
 obtain⟨css,d,m,l⟩:=h.own
 have c:∀g,v.ownBlock=some g→o' g=o g∧w'.heap[g]?=w.heap[g]?:=fun g b=>by
  have j:=h.mark g b;refine f.keep g ?_ (fun t' a hT=>?_)
  ·exact(d.lt g b).2
  ·rw[j]at a;injection a with a;subst a;exact ht hT
 refine⟨⟨css,?_,m,fun i hi=>?_⟩,fun g b=>(c g b).1.trans (h.mark g b)⟩
 ·obtain⟨q1,q2⟩:=d;refine⟨q1,?_⟩
  rcases q2 with q2|⟨g,cap,cur,q3,q4,q5,q6⟩
  ·exact .inl q2
  ·refine .inr ⟨g,cap,cur,q3,q4,?_,q6⟩;rw[(c g (by rw[q3];rfl)).2];exact q5
 ·obtain⟨cs,q1,q2,q3⟩:=l i hi;exact⟨cs,q1,q2,k _ _ _ _ q3 f.view⟩
theorem Row.lt(h:Row o t sz R e w v xs):∀g,v.ownBlock=some g→g<w.heap.size:=fun g a=>(h.ownSl.lt g a).2
theorem Row.reads(c:Mono R)(h:Row o t sz R e w v xs)(b:xs.length*bs≤140737488355328):RSl sz R bs w.cell? v xs:=by
 have g:OwnSl sz R e w 0 v xs:=by
  obtain⟨css,d,j,f⟩:=h.own;refine⟨css,d,j,fun i hi=>?_⟩;obtain⟨cs,q1,q2,q3⟩:=f i hi;refine⟨cs,q1,q2,c _ _ _ _ q3 (fun a u hu=>?_)⟩;unfold Zas at hu;split at hu
  ·cases hu
  ·rename_i hn;unfold View.but;rw[if_neg (fun e=>?_)]
   ·exact hu
   ·have:=h.mark a.block e.symm;rw[this]at hn;exact hn rfl
 exact g.reads c b
end
theorem Zcf(Y:Mono R){ow:Own}{tg:Nat×Nat}{o:Oper}{t:TypeId}{bytes n:Nat}(x:α)(cs:List Value)(hE:Elem P t e sz bytes)(s y:Operand)(ho:o.op=.call {callee:=.builtin .append,args:=#[s,y],argTypes:=#[t,t] })(hs:a.eval s=v)(d:Row ow tg sz R e wr v xs)(m:Lim ow wr)(h7:tg.1≠7){gy:Nat}(hx:a.eval y=.slice (some ⟨gy,0,none⟩) 1 1)(U:gy=wr.heap.size)(W:cs.length=sz)(h1:(cs.all fun u=>u.oneCell')=true)(T:R (Zas ow wr) cs x)(I:n≤140737488355328)(hn:(xs.length+1)*bytes≤n)(H:xs.length+1≤n)(h:∀v' w' o',Row o' tg sz R e w' v' (xs++[x])→Fr (fun t=>t=tg) ow wr o' w'→K (a.put o.dst v') w'):o.wp P a (wr.alloc (.cells cs.toArray e)) K Q:=by
 subst U
 obtain⟨ht,M,i,z,hi,C,A,D,O⟩:=hE
 obtain⟨css,q1,q2,q3⟩:=d.own
 have E:∀u∈cs,u.oneCell'=true:=fun u hu=>List.all_eq_true.1 h1 u hu
 have f:∀j u,cs[j]?=some u→(wr.alloc (.cells cs.toArray e)).cell? ((⟨wr.heap.size,0,none⟩:Addr).add j)=some u:=fun j u hu=>by
  rw[Zbs,Nat.zero_add,cell_of_row _ _ j cs.toArray e (0,0) (heap_alloc_new wr _)]
  simpa using hu
 have q1':=q1.alloc (.cells cs.toArray e)
 obtain⟨v',w',Z,p,r⟩:=Zc3 (P:=P) (wr.alloc (.cells cs.toArray e)) 0 t o.type e i z sz bytes ht hi C A D O M v xs.length css.flatten q1' (some ⟨wr.heap.size,0,none⟩) 1 1 cs (by rw[W,Nat.one_mul]) (fun h=>by cases h)
  (fun ad S=>by obtain rfl:=Option.some.inj S;exact f) E (Zbw (Zg H I)) (Zg hn I) (Zf _)
 have F:=Zhh (P:=P) (wr.alloc (.cells cs.toArray e)) 0 t o.type e i z sz bytes ht hi C A D v xs.length css.flatten q1' ⟨wr.heap.size,0,none⟩ 1 1 cs (by rw[W,Nat.one_mul]) f E (by decide) (Zg H I) (Zg hn I) Z
 have g1:=World.grownBy_alloc wr (.cells cs.toArray e) v.ownBlock
 have g2:=Zae g1 r
 obtain⟨g',l⟩:∃g',v'.ownBlock=some g':=by
  rcases p.2 with ⟨_,L⟩|⟨g,cap,cur,rfl,_⟩
  ·omega
  ·exact⟨g,rfl⟩
 have G:g'<w'.heap.size:=(p.lt g' l).2
 have X:ow g'=some tg∨wr.heap.size≤g':=by
  rcases F with e|e
  ·exact .inl (d.mark g' (by rw[←e,l]))
  ·rw[l]at e;injection e with e;right;simp at e;omega
 have q:Fr (fun t=>t=tg) ow wr (mark ow g' (some tg)) w':=by
  refine⟨g2.os,g2.tape,g2.output,g2.size,Lim.mark ⟨fun b J=>m.none b (Zg g2.size J),m.seven⟩ G (fun k B=>?_),fun b J hn=>?_,fun b t' J V ht=>?_⟩
  ·injection B with B;rw[B]at h7;exact absurd rfl h7
  ·have N:b≠g':=fun e=>by
    subst e
    rcases X with L|L
    ·exact hn _ L rfl
    ·omega
   refine⟨Zb1 _ _ N,g2.block b J (fun e=>?_)⟩
   exact hn tg (d.mark b e.symm) rfl
  ·by_cases e:b=g'
   ·subst e;exact⟨tg,Zc9 _ _ _,rfl⟩
   ·exact⟨t',by rw[Zb1 _ _ e];exact V,ht⟩
 unfold Oper.wp execOp
 simp[ho,resolve,invoke,builtin,hs,hx,Z,Result.andThen,Oper.upon]
 refine h v' w' _ ⟨⟨css++[cs],?_,by simp[q2],fun k B=>?_⟩,fun g r=>?_⟩ q
 ·rw[List.flatten_append,Zl]
  simpa using p
 ·by_cases w:k<xs.length
  ·obtain⟨c,r1,r2,r3⟩:=q3 k w
   refine⟨c,by rw[List.getElem?_append_left (by omega)];exact r1,r2,?_⟩
   rw[List.getElem_append_left w]
   exact Y _ _ _ _ r3 q.view
  ·have:k=xs.length:=by simp at B;omega
   subst this
   refine⟨cs,by rw[List.getElem?_append_right (by omega)];simp[q2],W,?_⟩
   rw[List.getElem_append_right (by omega)]
   simpa using Y _ _ _ _ T q.view
 ·rw[l]at r;injection r with r;subst r;exact Zc9 _ _ _
theorem Zcw(k:Mono R){ow:Own}{tg:Nat×Nat}{o:Oper}{t:TypeId}{bytes n:Nat}(x:α)(cs:List Value)(p:Elem P t e sz bytes)(s y:Operand)(g:o.guard=none)(m:o.op=.call {callee:=.builtin .append,args:=#[s,y],argTypes:=#[t,t] })(w:a.eval s=v)(b:Row ow tg sz R e wr v xs)(c:Lim ow wr)(C:tg.1≠7){gy:Nat}(j:a.eval y=.slice (some ⟨gy,0,none⟩) 1 1)(i:gy=wr.heap.size)(z:cs.length=sz)(l:(cs.all fun u=>u.oneCell')=true)(d:R (Zas ow wr) cs x)(A:n≤140737488355328)(hn:(xs.length+1)*bytes≤n)(f:xs.length+1≤n)(h:∀v' w' o',Row o' tg sz R e w' v' (xs++[x])→Fr (fun t=>t=tg) ow wr o' w'→wpList P ops Q rest (a.put o.dst v') w'):wpList P ops Q (o::rest) a (wr.alloc (.cells cs.toArray e)) :=
 wpList_plain g fun _ q=>Zcf k x cs p s y m w b c C j i z l d A hn f fun v' w' o' B r=>q _ _ (h v' w' o' B r)
def Sec(w:World)(g off:Nat)(cs:List Value):Prop:=∃t whole,Blk w g t whole∧off+cs.length≤whole.size∧∀j,j<cs.length→whole[off+j]?=cs[j]?
def Only(w w':World)(g off n:Nat):Prop:=∀t whole,Blk w g t whole→∃whole',Blk w' g t whole'∧whole'.size=whole.size∧∀k,(k<off∨off+n≤k)→whole'[k]?=whole[k]?
section
variable {w w' w2:World} {g off n:Nat} {cs:List Value}
theorem Only.refl(w:World)(g off n:Nat):Only w w g off n:=fun t whole h=>⟨whole,h,rfl,fun _ _=>rfl⟩
theorem Only.trans(h:Only w w' g off n)(k:Only w' w2 g off n):Only w w2 g off n:=fun t whole b=>by
 obtain⟨x,a,c,d⟩:=h t whole b
 obtain⟨y,k1,k2,k3⟩:=k t x a
 exact⟨y,k1,k2.trans c,fun i hi=>(k3 i hi).trans (d i hi)⟩
theorem Only.of_same(h:g<w.heap.size→w'.heap[g]?=w.heap[g]?):Only w w' g off n:=fun t whole a=>⟨whole,(h a.lt).trans a,rfl,fun _ _=>rfl⟩
theorem Sec.cell(h:Sec w g off cs)(a:j<cs.length):w.cell? ⟨g,off+j,none⟩=some cs[j]:=by
 obtain⟨t,whole,c,d,b⟩:=h;rw[c.cell,b j a,Zp a]
theorem Sec.lt(h:Sec w g off cs):g<w.heap.size:=by
 obtain⟨t,whole,a,_⟩:=h;exact a.lt
theorem Sec.same(h:Sec w g off cs)(b:w'.heap[g]?=w.heap[g]?):Sec w' g off cs:=by
 obtain⟨t,whole,c,a⟩:=h;exact⟨t,whole,b.trans c,a⟩
theorem Sec.only{off2 n2:Nat}(h:Sec w g off cs)(k:Only w w' g off2 n2)(hd:off+cs.length≤off2∨off2+n2≤off):Sec w' g off cs:=by
 obtain⟨t,whole,c,d,b⟩:=h;obtain⟨x,k1,k2,k3⟩:=k t whole c;refine⟨t,x,k1,by omega,fun j a=>?_⟩;rw[k3 (off+j) (by omega)];exact b j a
theorem Sec.storeG(h:Sec w g off cs)(vs:List Value)(hi:i+vs.length≤cs.length){o:Oper}{t:TypeId}{x:Operand}(s:o.op=.store t x y)(r:a.eval x=.pointer (some ⟨g,off+i,none⟩))(z:a.eval y=v)(e:(P.info? t).map (·.size)=some vs.length)(d:v.cells.toList=vs)(f:(vs.all fun u=>u.oneCell')=true)(k:∀w',Sec w' g off (cs.take i++(vs++cs.drop (i+vs.length)))→w.grownBy w' (some g)→Only w w' g (off+i) vs.length→K (a.put o.dst undef) w'):o.wp P a w K Q:=by
 obtain⟨te,whole,p,q1,q2⟩:=h
 have l:v.cells.size=vs.length:=by rw[←d];simp
 refine Zau s r z e l p (by omega) (by rw[d];exact f) (fun w' b B=>k w' ?_ B ?_)
 ·rw[d]at b
  refine⟨te,_,b,by simp;omega,fun j A=>?_⟩
  simp only[Zl,List.length_take,List.length_drop]at A
  simp only[List.getElem?_toArray]
  have q:∀m,m<cs.length→whole.toList[off+m]?=cs[m]?:=fun m c=>by rw[Array.getElem?_toList];exact q2 m c
  by_cases f:j<i
  ·rw[List.getElem?_append_left (by simp;omega),List.getElem?_take,if_pos (by omega),q j (by omega),List.getElem?_append_left (by simp;omega),List.getElem?_take,if_pos f]
  ·by_cases C:j<i+vs.length
   ·rw[List.getElem?_append_right (by simp;omega),List.getElem?_append_left (by simp;omega),List.getElem?_append_right (by simp;omega),List.getElem?_append_left (by simp;omega)]
    congr 1
    simp;omega
   ·rw[List.getElem?_append_right (by simp;omega),List.getElem?_append_right (by simp;omega),List.getElem?_drop,List.getElem?_append_right (by simp;omega),List.getElem?_append_right (by simp;omega),List.getElem?_drop]
    rw[show off+i+vs.length+(off+j-(List.take (off+i) whole.toList).length-vs.length)=off+j by simp;omega,q j (by omega)]
    congr 1
    simp;omega
 ·intro t2 whole2 n
  rw[d]at b
  have:whole2=whole∧t2=te:=by
   have:=n.symm.trans p
   injection this with this
   injection this with e1 e2
   exact⟨e1,e2⟩
  obtain⟨rfl,rfl⟩:=this
  refine⟨_,b,by simp;omega,fun m c=>?_⟩
  simp only[List.getElem?_toArray]
  rw[←Array.getElem?_toList]
  rcases c with c|c
  ·rw[List.getElem?_append_left (by simp;omega),List.getElem?_take,if_pos c]
  ·rw[List.getElem?_append_right (by simp;omega),List.getElem?_append_right (by simp;omega),List.getElem?_drop]
   congr 1
   simp;omega
theorem Sec.store(h:Sec w g off cs)(vs:List Value)(hi:i+vs.length≤cs.length){o:Oper}{t:TypeId}{x:Operand}(c:o.guard=none)(j:o.op=.store t x y)(d:a.eval x=.pointer (some ⟨g,off+i,none⟩))(l:a.eval y=v)(b:(P.info? t).map (·.size)=some vs.length)(e:v.cells.toList=vs)(f:(vs.all fun u=>u.oneCell')=true)(k:∀w',Sec w' g off (cs.take i++(vs++cs.drop (i+vs.length)))→w.grownBy w' (some g)→Only w w' g (off+i) vs.length→wpList P ops Q rest (a.put o.dst undef) w'):wpList P ops Q (o::rest) a w :=
 wpList_plain c fun K m=>h.storeG vs hi j d l b e f fun w' q1 q2 q3=>m _ _ (k w' q1 q2 q3)
end
end Fl
theorem Zvx{s v:List Nat}(b:Ws 8 s)(a:Ws 16 v):Ws 8 ((List.range 8).map (Zgx s v)):=by
 refine⟨by simp,fun i=>?_⟩
 by_cases hi:i<8
 ·have:at0 ((List.range 8).map (Zgx s v)) i=Zgx s v i:=by unfold at0;simp[hi]
  rw[this];exact Zcu (Zcu (b.2 i) (a.2 i)) (a.2 (i+8))
 ·unfold at0;rw[List.getD_eq_getElem?_getD,List.getElem?_eq_none (by simp;omega)];show(0:Nat)<_;decide
theorem Zt2{s:List Nat}(h:Ws 8 s){many:Nat}(c:W32 many)(last:Bool):Ws 16 (Zhy s many last):=by
 have b:=Zsx h;have a:=b.set (i:=12) (Zcu (b.2 12) c);unfold Zhy;dsimp only;split
 ·exact a.set (Zcu (a.2 14) (by unfold W32;decide))
 ·exact a
theorem Zm4{s:List Nat}(h:Ws 8 s)(b:List UInt8){many:Nat}(a:W32 many)(last:Bool):Ws 8 (Zf6 s b many last):=Zvx h ((Zt2 h a last).roundsTo _ _)
theorem ws_init:Ws 8 init8:=by
 have:Ws 8 Zc5:=⟨rfl,fun i=>by
  by_cases hi:i<8
  ·have:∀i:Fin 8,at0 Zc5 i<4294967296:=by decide
   exact this ⟨i,hi⟩
  ·unfold at0;rw[List.getD_eq_getElem?_getD,List.getElem?_eq_none (by show 8≤i;omega)];show(0:Nat)<_
   decide⟩
 exact this.set (Zcu (this.2 0) (by unfold W32;decide))
theorem RVec.part{enc:α→Value}{n:Nat}(q:RVec enc bs h (.slice A n c) xs){lo m:Nat}(r:lo+m≤xs.length):RVec enc bs h (.slice (A.map fun x=>x.add lo) m (c-lo)) ((xs.drop lo).take m):=by
 obtain⟨A',c',e,s,p,j,f,g⟩:=q;injection e with e1 e2 e3;subst e1 e2 e3;have d:((xs.drop lo).take m).length=m:=by simp;omega
 refine⟨_,_,by rw[d],by omega,Zg (Nat.sub_le _ _) p,?_,?_,fun hp=>?_⟩
 ·rw[d];exact Zg (Nat.mul_le_mul_right _ (by omega)) j
 ·intro k;cases A with
  |none=>have:=f rfl;omega
  |some a=>simp at k
 ·obtain⟨b,o,ea,l⟩:=g (by omega);subst ea;refine⟨b,o+lo,by simp[Zbs],fun i hi=>?_⟩;rw[d]at hi;have:=l (lo+i) (by omega);rw[show o+lo+i=o+(lo+i) by omega,this];simp
theorem Zq8(b:List UInt8)(a:64*k≤100000):Ws 8 (Zep b k):=by
 induction k with
 |zero=>exact ws_init
 |succ k ih =>
  rw[Zi1];exact Zm4 (ih (by omega)) _ (by unfold W32;omega) _
def laid3 : List (String × DataW Unit) := [("sheaves/blake.first", Rows.laid_sheaves_blake_first), ("sheaves/blake.order", Rows.laid_sheaves_blake_order), ("sheaves/blake.lanes", Rows.laid_sheaves_blake_lanes)]
theorem chunks{α:Type}(sz:Nat):∀(rows:List (List α)) (cs:List α),cs.length=rows.length*sz→(∀i (hi:i<rows.length),(cs.drop (i*sz)).take sz=rows[i])→cs=rows.flatten
 |[],cs,a,_=>by
  have:cs=[]:=List.eq_nil_of_length_eq_zero (by simpa using a)
  rw[this];rfl
 |r::rs,cs,a,h=>by
  have b:=h 0 (by simp)
  simp only[Nat.zero_mul,List.drop_zero,List.getElem_cons_zero]at b
  have c:=chunks sz rs (cs.drop sz) (by rw[List.length_drop,a,Zu,Nat.add_mul];omega) (fun i hi=>by
   have:=h (i+1) (by simp;omega)
   rw[List.getElem_cons_succ]at this
   rw[←this,List.drop_drop,Nat.add_mul,Nat.one_mul,Nat.add_comm])
  rw[List.flatten_cons,←c,←b,List.take_append_drop]
section
variable {H:Type} {enc:TypeId×Value→H} {P:Program} {w:World} {base:Nat} {sp:Nat→Bool} {held:Bool} {t e:TypeId} {n fuel:Nat} {cs:List Value} {x:DataW H×List MemPlace}
theorem Ztz{k:IntKind}(ht:P.underlying t=some (.array n e))(q:P.underlying e=some (.int k))(r:P.cellsOf e=1)(hn:P.cellsOf t=n)(h:DataW.trod enc P w base sp held fuel t cs=some x){l:List Int}(b:x.1=.agg (l.map fun z=>.lit (.int k z))):cs=l.map (Value.int k):=by
 obtain⟨xs,m,rfl,rfl,a,o,g⟩:=DataW.trod_array ht h;injection b with b;have c:l.length=n:=by have:=congrArg List.length b;simp at this;omega
 refine List.ext_getElem (by rw[a,hn];simp[c]) (fun i d s=>?_);have hi:i<n:=by rw[a,hn]at d;exact d
 have j:=g i hi;rw[r,Nat.mul_one,Zp (by omega)]at j;obtain⟨z,e1,e2,_⟩:=DataW.trod_int q j;have f:(xs.map (·.1))[i]?=(l.map fun z=>DataW.lit (.int k z))[i]?:=by rw[b]
 rw[List.getElem?_map,List.getElem?_map,Zp (by omega),Zp (by omega),e2]at f;simp at f
 have p:(cs.drop i).take 1=[cs[i]]:=by
  rw[List.drop_eq_getElem_cons d];rfl
 rw[p]at e1;injection e1 with e1;rw[e1,f];simp
theorem Zty{e2:TypeId}{n2:Nat}{k:IntKind}(ht:P.underlying t=some (.array n e))(s:P.underlying e=some (.array n2 e2))(o:P.underlying e2=some (.int k))(u:P.cellsOf e2=1)(c:P.cellsOf e=n2)(hn:P.cellsOf t=n*n2)(h:DataW.trod enc P w base sp held fuel t cs=some x){l:List (List Int)}(d:x.1=.agg (l.map fun r=>.agg (r.map fun z=>.lit (.int k z)))):cs=(l.map fun r=>r.map (Value.int k)).flatten:=by
 obtain⟨xs,m,rfl,rfl,a,q,j⟩:=DataW.trod_array ht h;injection d with d;have b:l.length=n:=by have:=congrArg List.length d;simp at this;omega
 refine chunks n2 _ _ (by rw[a,hn];simp[b]) (fun i hi=>?_);have g:i<n:=by simpa[b]using hi
 have p:=j i g;rw[c,Zp (by omega)]at p;have f:(xs.map (·.1))[i]?=(l.map fun r=>DataW.agg (r.map fun z=>DataW.lit (.int k z)))[i]?:=by rw[d]
 rw[List.getElem?_map,List.getElem?_map,Zp (by omega),Zp (by omega)]at f;simp only[Option.map_some,Option.some.injEq]at f;rw[Ztz s o u c p f];simp
end
theorem gFirst : prog.globalNamed "sheaves/blake.first" = some 9 := by kernel_rfl
theorem gOrder : prog.globalNamed "sheaves/blake.order" = some 10 := by kernel_rfl
theorem gLanes : prog.globalNamed "sheaves/blake.lanes" = some 11 := by kernel_rfl
theorem tFirst:(prog.globals[9]?).map (·.type)=some 305:=by kernel_rfl
theorem tOrder:(prog.globals[10]?).map (·.type)=some 323:=by kernel_rfl
theorem tLanes:(prog.globals[11]?).map (·.type)=some 325:=by kernel_rfl
theorem Zme{n:Nat}{cs:Array Value}{l:List Nat}{enc:Nat→Value}(a:∀i,W.cell? ⟨g,i,none⟩=cs[i]?)(h:cs.toList=l.map enc)(hn:l.length=n):∀i,i<n→W.cell? ⟨g,i,none⟩=some (enc (at0 l i)):=fun i hi=>by
 rw[a i,←Array.getElem?_toList,h,←Zg0 (by omega)]
 simp[show i<l.length by omega]
theorem of_laid(h:laidMetH prog laid3 W):Tabs W.cell?:=by
 rw[MakeChecks.laidMetH_plain _ _ _ (by kernel_rfl)]at h;obtain⟨ps,⟨g0,t0,cs0,f0,p0,q0,c,m,d,e,⟨g1,t1,cs1,f1,p1,q1,a,n,f,j,⟨g2,t2,cs2,f2,p2,q2,b,i,k,g,_,_⟩,_⟩,_⟩,_,_⟩:=h;obtain rfl:=Option.some.inj (gFirst.symm.trans c);obtain rfl:=Option.some.inj (gOrder.symm.trans a);obtain rfl:=Option.some.inj (gLanes.symm.trans b);obtain rfl:=Option.some.inj (tFirst.symm.trans m);obtain rfl:=Option.some.inj (tOrder.symm.trans n);obtain rfl:=Option.some.inj (tLanes.symm.trans i);have e0:=Ztz (l:=Zc5.map Int.ofNat) underlying305 underlying191 (by kernel_rfl) (by kernel_rfl) e rfl;have e1:=Zty (l:=Zfp.map fun r=>r.map Int.ofNat) underlying323 underlying322 underlying3 (by kernel_rfl) (by kernel_rfl) (by kernel_rfl) j rfl;have e2:=Zty (l:=((List.range 8).map Zge).map fun r=>r.map Int.ofNat) underlying325 underlying324 underlying3 (by kernel_rfl) (by kernel_rfl) (by kernel_rfl) g (by kernel_rfl);have f0:cs0.toList=Zc5.map encU:=e0;have f1:cs1.toList=Zfp.flatten.map encN:=e1.trans (by kernel_rfl);have f2:cs2.toList=(((List.range 8).map Zge).flatten).map encN:=e2.trans (by kernel_rfl);exact⟨Zme (World.var?_cell c d) f0 (by kernel_rfl),Zme (World.var?_cell a f) f1 (by kernel_rfl),Zme (World.var?_cell b k) f2 (by kernel_rfl)⟩
namespace Ln
theorem Zc2{w0:World}{L:List UInt8}{m:Nat}(h:Sh w0 w L)(b:L.length≤m)(s:ByteArray)(c:s.size≤400010)(d:m+400010≤140737488355328) :
 Calls prog 14 #[.pointer (some ⟨w0.heap.size,0,none⟩),.string s] w fun e w'=>∃L',e=.returned (.tuple #[.int .i64 s.size,.nilIface])∧Hid (L'=L++s.data.toList)∧L'.length≤m+400010∧Sh w0 w' L'∧Others w0.heap.size w w':=by
 have e1:s.data.toList.length=s.size:=Array.length_toList;refine(sh_ws h s (by omega)).mono ?_;rintro e w' ⟨rfl,a⟩;exact⟨_,rfl,Zb rfl,by rw[Zl,e1];omega,a⟩
theorem Zjz{w0:World}{L:List UInt8}(h:Sh w0 w L)(hP:Pow w0)(n:Int)(a:0≤n)(c:n≤400000) :
 Calls prog 15 #[.int .i64 n] w fun e w'=>∃s:ByteArray,e=.returned (.string s)∧Hid (s=mkS (decL n))∧s.size≤400001∧Sh w0 w' L∧Others w0.heap.size w w':=by
 refine(sh_it h hP n a (by omega)).mono ?_;rintro e w' ⟨rfl,b⟩;have:=Zo5 n a;exact⟨_,rfl,Zb rfl,by rw[Zcn];omega,b⟩
theorem Zs7{w0:World}{L:List UInt8}(h:Sh w0 w L)(s:ByteArray)(a:s.size≤4000) :
 Calls prog 16 #[.string s] w fun e w'=>∃s':ByteArray,e=.returned (.string s')∧Hid (s'=mkS (hexL s.data.toList))∧s'.size≤8000∧Sh w0 w' L∧Others w0.heap.size w w':=by
 refine(sh_hx h s a).mono ?_;rintro e w' ⟨rfl,b⟩;have e1:s.data.toList.length=s.size:=Array.length_toList;exact⟨_,rfl,Zb rfl,by rw[Zcn,hexL_len,e1];omega,b⟩
theorem Zb2(s:ByteArray):(({ data:=#[32] }:ByteArray)++s).size=1+s.size:=by rw[ByteArray.size_append];rfl
theorem Zdh(s:ByteArray):(({ data:=#[32] }:ByteArray)++s).data.toList=32::s.data.toList:=by
 rw[ByteArray.data_append];simp
theorem show_any(v:Value)(l:List Ac)(w:World)(hv:RActs w.cell? v l)(g5:∀a∈l,a.text.size≤140737488355328)(hW:Words w.cell?)(S:Pow w) :
 Calls prog 6 #[v] w fun e w'=>e=.returned (.tuple #[.string (mkS (Zrn l).1),.int .i64 (Zrn l).2.1,.int .i64 (Zrn l).2.2])∧Below w.heap.size w w':=by
 obtain⟨A,c,rfl,h1,h2,h3,g0⟩:=hv.at;have gf:=Zb g0;have ga:=Zb g5;clear g0 g5;have Hq:Hid (Zrn l=if 3000<l.length then([],0,1)else if badI l<l.length then([],badI l,match l[badI l]? with|some a=>actE a|none=>0)else(showL l,0,0)):=rfl;obtain⟨E,hE⟩:∃E,Hid (Zrn l=E):=⟨_,rfl⟩;rw[hE.out]at Hq⊢;obtain⟨n,hn⟩:∃n,Hid (l.length=n):=⟨_,rfl⟩;rw[hn.out]at h1 h3 Hq⊢
 by_cases hp:3000<n
 ·have he:E=([],0,1):=by rw[Hq.out,if_pos hp]
  subst he;clear Hq hE;go_enter func6,ntmps6;go_wp2;go_ret3;exact⟨rfl,Zm _ _⟩
 ·replace Hq:Hid (E=if badI l<n then([],badI l,match l[badI l]? with|some a=>actE a|none=>0)else(showL l,0,0)):=by
   show _=_;rw[Hq.out,if_neg hp]
  clear hE;go_enter func6,ntmps6;go_wp2
  go_loopw [17] (fun ct wr=>∃k:Nat,k≤n∧ct=.int .i64 k∧Hid (∀j (hj:j<l.length),j<k→actE l[j]=0)∧Sh w wr (showL (l.take k))) (fun ct _=>n-(intOf ct).toNat)
  case atStart=>exact⟨0,Zf _,rfl,fun j _ hj=>by omega,Bld.new w,Zac _ _⟩
  case round =>
   obtain⟨k,hk,rfl,hf,hS⟩:=hrel
   have Y:(showL (l.take k)).length≤k*500000:=by
    have:=Zwn (l.take k) (fun a ha=>by
     obtain⟨j,hj,rfl⟩:=List.getElem_of_mem ha;rw[List.getElem_take];simp at hj
     exact hf.out j (by omega) (by omega))
    rw[List.length_take,Nat.min_eq_left (by have:=hn.out;omega)]at this;exact this
   by_cases g7:k<n
   ·have h9:k<l.length:=by have:=hn.out;omega
    obtain⟨b,o,rfl,c0,c1,c2,c3⟩:=gf.out k h9;have hr:=ga.out l[k] (List.getElem_mem h9);obtain⟨a,ha⟩:∃a,Hid (l[k]=a):=⟨_,Zb rfl⟩;rw[ha.out]at c0 c1 c2 c3 hr;have h4:=Zaa hS.2;have c0:=h4 _ _ c0;have c1:=h4 _ _ c1;have c2:=h4 _ _ c2;have c3:=h4 _ _ c3
    have P:Hid (showL (l.take (k+1))=showL (l.take k)++lineL a):=by
     show _=_;rw[Zuk l k h9,ha.out]
    obtain⟨L,gh⟩:∃L,Hid (showL (l.take k)=L):=⟨_,rfl⟩;rw[gh.out]at hS Y P;obtain⟨ak,an,ap,atx⟩:=a;simp only at c0 c1 c2 c3 hr;have g1:=World.block_lt_of_cell? _ _ c0;go_wp2_with fail;refine(Zfq ak an ap atx _ hr).mono ?_;rintro e w1 ⟨rfl,hs⟩;have g4:=Blk.new wr 48 #[.int .i64 ak,.int .i64 an,.int .i64 ap,.string atx];have V:=g4.kept hs;have hb:=Zac wr (.cells #[.int .i64 ak,.int .i64 an,.int .i64 ap,.string atx] 48);have h6:Below wr.heap.size wr w1:=hb.trans (hs.mono hb.size);have hm:Sh w w1 L:=⟨hS.1.kept h6,hS.2.trans (h6.mono hS.2.size)⟩;have k0:=V.cell 0;have k1:=V.cell 1;have k2:=V.cell 2;have k3:=V.cell 3;simp at k0 k1 k2 k3;have gd:=V.lt;obtain⟨F,hF⟩:∃F,Hid (actF ak an ap atx=F):=⟨_,rfl⟩;rw[hF.out];have h8:Hid (actE ⟨ak,an,ap,atx⟩=F):=hF;have gi:=hS.1.lt;clear g4 hs hb hS c0 c1 c2 c3 g1 h4
    by_cases hq:F=0
    ·subst hq;obtain⟨m1,m2,m3,m4,m5⟩:=act_fine h8.out;simp only at m1 m2 m3 m4 m5;obtain⟨kk,rfl⟩:∃kk:Nat,ak=kk:=⟨ak.toNat,by omega⟩;obtain⟨WD,O⟩:∃WD,Hid (mkS (Ze9 kk)=WD):=⟨_,rfl⟩;have gl:WD.size≤6:=by rw[←O.out,Zcn];exact wordL_len kk
     have cw:w1.cell? ⟨0,kk,none⟩=some (.string WD):=by rw[←O.out];exact Zaa hm.2 _ _ (hW kk (by omega))
     have gv:kk<11:=by omega
     have H:Hid (∀j (hj:j<l.length),j<k+1→actE l[j]=0):=by
      show ∀j (hj:j<l.length),j<k+1→actE l[j]=0;intro j hj gp
      rcases Nat.lt_or_ge j k with h|h
      ·exact hf.out j hj h
      ·obtain rfl:j=k:=by omega
       rw[ha.out,h8.out]
     clear hF h8;go_wp2_with fail;refine(has_any _ _).mono ?_;rintro e w2 ⟨rfl,rfl⟩;go_wp2_with fail;refine(Zc2 hm Y WD (by omega) (by omega)).mono ?_;rintro e w2 ⟨L1,rfl,R,Q,t,hw⟩;have z:=hw _ _ _ V (by have:=t.1.lt;have:=h6.size;omega) (by decide);have k1:=z.cell 1;have k2:=z.cell 2;have k3:=z.cell 3;simp at k1 k2 k3;clear V hm hw cw k0 Y
     cases n1:hN kk<;>cases n2:hP kk<;>cases n3:hT kk
     all_goals
      (try have q1:=m3 n1)
      (try have q2:=m4 n2)
      (try have q3:=m5 n3)
      clear m3 m4 m5
     ·go_wp2_with fail;refine(Zc2 t Q _ (by decide) (by omega)).mono ?_
      rintro e w3 ⟨L2,rfl,C,D,m,i⟩;have d:=i _ _ _ z (by omega) (by decide);clear k1 k2 k3 i;have k1:=d.cell 1;have k2:=d.cell 2;have k3:=d.cell 3;simp at k1 k2 k3;clear z t
      have p:Sh w w3 (showL (l.take (k+1))):=by
       have B:=m;rw[C.out,R.out]at B;rw[P.out];unfold lineL;simp only[n1,n2,n3,if_true,if_false,Bool.false_eq_true,Int.toNat_natCast];simp only[Zdh,←O.out,Zfk,List.append_assoc]at B;exact B
      clear m d k1 k2 k3;go_wp2;go_roundw
      case rel=>exact⟨k+1,by omega,by go_num,H,p⟩
      case measure=>simp[intOf];omega
     ·go_wp2_with fail;refine(Zs7 t atx (by omega)).mono ?_
      rintro e w3 ⟨sc,rfl,W,Z,m,i⟩;have d:=i _ _ _ z (by omega) (by decide);clear k1 k2 k3 i;have k1:=d.cell 1;have k2:=d.cell 2;have k3:=d.cell 3;simp at k1 k2 k3;clear z t;go_wp2_with fail;refine(Zc2 m Q _ (by rw[Zb2];omega) (by omega)).mono ?_;rintro e w4 ⟨L2,rfl,C,D,r,x⟩;have f:=x _ _ _ d (by omega) (by decide);clear k1 k2 k3 x;have k1:=f.cell 1;have k2:=f.cell 2;have k3:=f.cell 3;simp at k1 k2 k3;clear d m;go_wp2_with fail;refine(Zc2 r D _ (by decide) (by omega)).mono ?_;rintro e w5 ⟨L3,rfl,G,N,y,u⟩;have g:=u _ _ _ f (by omega) (by decide);clear k1 k2 k3 u;have k1:=g.cell 1;have k2:=g.cell 2;have k3:=g.cell 3;simp at k1 k2 k3;clear f r
      have p:Sh w w5 (showL (l.take (k+1))):=by
       have B:=y;rw[G.out,C.out,R.out]at B;rw[P.out];unfold lineL;simp only[n1,n2,n3,if_true,if_false,Bool.false_eq_true,Int.toNat_natCast];simp only[Zdh,←O.out,Zfk,W.out,List.append_assoc]at B;exact B
      clear y g k1 k2 k3;go_wp2;go_roundw
      case rel=>exact⟨k+1,by omega,by go_num,H,p⟩
      case measure=>simp[intOf];omega
     ·go_wp2_with fail;refine(Zjz t S ap (by omega) (by omega)).mono ?_
      rintro e w3 ⟨sb,rfl,T,h5,m,i⟩;have d:=i _ _ _ z (by omega) (by decide);clear k1 k2 k3 i;have k1:=d.cell 1;have k2:=d.cell 2;have k3:=d.cell 3;simp at k1 k2 k3;clear z t;go_wp2_with fail;refine(Zc2 m Q _ (by rw[Zb2];omega) (by omega)).mono ?_;rintro e w4 ⟨L2,rfl,C,D,r,x⟩;have f:=x _ _ _ d (by omega) (by decide);clear k1 k2 k3 x;have k1:=f.cell 1;have k2:=f.cell 2;have k3:=f.cell 3;simp at k1 k2 k3;clear d m;go_wp2_with fail;refine(Zc2 r D _ (by decide) (by omega)).mono ?_;rintro e w5 ⟨L3,rfl,G,N,y,u⟩;have g:=u _ _ _ f (by omega) (by decide);clear k1 k2 k3 u;have k1:=g.cell 1;have k2:=g.cell 2;have k3:=g.cell 3;simp at k1 k2 k3;clear f r
      have p:Sh w w5 (showL (l.take (k+1))):=by
       have B:=y;rw[G.out,C.out,R.out]at B;rw[P.out];unfold lineL;simp only[n1,n2,n3,if_true,if_false,Bool.false_eq_true,Int.toNat_natCast];simp only[Zdh,←O.out,Zfk,T.out,List.append_assoc]at B;exact B
      clear y g k1 k2 k3;go_wp2;go_roundw
      case rel=>exact⟨k+1,by omega,by go_num,H,p⟩
      case measure=>simp[intOf];omega
     ·go_wp2_with fail;refine(Zjz t S ap (by omega) (by omega)).mono ?_
      rintro e w3 ⟨sb,rfl,T,h5,m,i⟩;have d:=i _ _ _ z (by omega) (by decide);clear k1 k2 k3 i;have k1:=d.cell 1;have k2:=d.cell 2;have k3:=d.cell 3;simp at k1 k2 k3;clear z t;go_wp2_with fail;refine(Zc2 m Q _ (by rw[Zb2];omega) (by omega)).mono ?_;rintro e w4 ⟨L2,rfl,C,D,r,x⟩;have f:=x _ _ _ d (by omega) (by decide);clear k1 k2 k3 x;have k1:=f.cell 1;have k2:=f.cell 2;have k3:=f.cell 3;simp at k1 k2 k3;clear d m;go_wp2_with fail;refine(Zs7 r atx (by omega)).mono ?_;rintro e w5 ⟨sc,rfl,W,Z,y,u⟩;have g:=u _ _ _ f (by omega) (by decide);clear k1 k2 k3 u;have k1:=g.cell 1;have k2:=g.cell 2;have k3:=g.cell 3;simp at k1 k2 k3;clear f r;go_wp2_with fail;refine(Zc2 y D _ (by rw[Zb2];omega) (by omega)).mono ?_;rintro e w6 ⟨L3,rfl,G,N,K,I⟩;have q:=I _ _ _ g (by omega) (by decide);clear k1 k2 k3 I;have k1:=q.cell 1;have k2:=q.cell 2;have k3:=q.cell 3;simp at k1 k2 k3;clear g y;go_wp2_with fail;refine(Zc2 K N _ (by decide) (by omega)).mono ?_;rintro e w7 ⟨L4,rfl,U,hg,J,M⟩;have s:=M _ _ _ q (by omega) (by decide);clear k1 k2 k3 M;have k1:=s.cell 1;have k2:=s.cell 2;have k3:=s.cell 3;simp at k1 k2 k3;clear q K
      have p:Sh w w7 (showL (l.take (k+1))):=by
       have B:=J;rw[U.out,G.out,C.out,R.out]at B;rw[P.out];unfold lineL;simp only[n1,n2,n3,if_true,if_false,Bool.false_eq_true,Int.toNat_natCast];simp only[Zdh,←O.out,Zfk,T.out,W.out,List.append_assoc]at B;exact B
      clear J s k1 k2 k3;go_wp2;go_roundw
      case rel=>exact⟨k+1,by omega,by go_num,H,p⟩
      case measure=>simp[intOf];omega
     ·go_wp2_with fail;refine(Zjz t S an (by omega) (by omega)).mono ?_
      rintro e w3 ⟨sa,rfl,X,h7,m,i⟩;have d:=i _ _ _ z (by omega) (by decide);clear k1 k2 k3 i;have k1:=d.cell 1;have k2:=d.cell 2;have k3:=d.cell 3;simp at k1 k2 k3;clear z t;go_wp2_with fail;refine(Zc2 m Q _ (by rw[Zb2];omega) (by omega)).mono ?_;rintro e w4 ⟨L2,rfl,C,D,r,x⟩;have f:=x _ _ _ d (by omega) (by decide);clear k1 k2 k3 x;have k1:=f.cell 1;have k2:=f.cell 2;have k3:=f.cell 3;simp at k1 k2 k3;clear d m;go_wp2_with fail;refine(Zc2 r D _ (by decide) (by omega)).mono ?_;rintro e w5 ⟨L3,rfl,G,N,y,u⟩;have g:=u _ _ _ f (by omega) (by decide);clear k1 k2 k3 u;have k1:=g.cell 1;have k2:=g.cell 2;have k3:=g.cell 3;simp at k1 k2 k3;clear f r
      have p:Sh w w5 (showL (l.take (k+1))):=by
       have B:=y;rw[G.out,C.out,R.out]at B;rw[P.out];unfold lineL;simp only[n1,n2,n3,if_true,if_false,Bool.false_eq_true,Int.toNat_natCast];simp only[Zdh,←O.out,Zfk,X.out,List.append_assoc]at B;exact B
      clear y g k1 k2 k3;go_wp2;go_roundw
      case rel=>exact⟨k+1,by omega,by go_num,H,p⟩
      case measure=>simp[intOf];omega
     ·go_wp2_with fail;refine(Zjz t S an (by omega) (by omega)).mono ?_
      rintro e w3 ⟨sa,rfl,X,h7,m,i⟩;have d:=i _ _ _ z (by omega) (by decide);clear k1 k2 k3 i;have k1:=d.cell 1;have k2:=d.cell 2;have k3:=d.cell 3;simp at k1 k2 k3;clear z t;go_wp2_with fail;refine(Zc2 m Q _ (by rw[Zb2];omega) (by omega)).mono ?_;rintro e w4 ⟨L2,rfl,C,D,r,x⟩;have f:=x _ _ _ d (by omega) (by decide);clear k1 k2 k3 x;have k1:=f.cell 1;have k2:=f.cell 2;have k3:=f.cell 3;simp at k1 k2 k3;clear d m;go_wp2_with fail;refine(Zs7 r atx (by omega)).mono ?_;rintro e w5 ⟨sc,rfl,W,Z,y,u⟩;have g:=u _ _ _ f (by omega) (by decide);clear k1 k2 k3 u;have k1:=g.cell 1;have k2:=g.cell 2;have k3:=g.cell 3;simp at k1 k2 k3;clear f r;go_wp2_with fail;refine(Zc2 y D _ (by rw[Zb2];omega) (by omega)).mono ?_;rintro e w6 ⟨L3,rfl,G,N,K,I⟩;have q:=I _ _ _ g (by omega) (by decide);clear k1 k2 k3 I;have k1:=q.cell 1;have k2:=q.cell 2;have k3:=q.cell 3;simp at k1 k2 k3;clear g y;go_wp2_with fail;refine(Zc2 K N _ (by decide) (by omega)).mono ?_;rintro e w7 ⟨L4,rfl,U,hg,J,M⟩;have s:=M _ _ _ q (by omega) (by decide);clear k1 k2 k3 M;have k1:=s.cell 1;have k2:=s.cell 2;have k3:=s.cell 3;simp at k1 k2 k3;clear q K
      have p:Sh w w7 (showL (l.take (k+1))):=by
       have B:=J;rw[U.out,G.out,C.out,R.out]at B;rw[P.out];unfold lineL;simp only[n1,n2,n3,if_true,if_false,Bool.false_eq_true,Int.toNat_natCast];simp only[Zdh,←O.out,Zfk,X.out,W.out,List.append_assoc]at B;exact B
      clear J s k1 k2 k3;go_wp2;go_roundw
      case rel=>exact⟨k+1,by omega,by go_num,H,p⟩
      case measure=>simp[intOf];omega
     ·go_wp2_with fail;refine(Zjz t S an (by omega) (by omega)).mono ?_
      rintro e w3 ⟨sa,rfl,X,h7,m,i⟩;have d:=i _ _ _ z (by omega) (by decide);clear k1 k2 k3 i;have k1:=d.cell 1;have k2:=d.cell 2;have k3:=d.cell 3;simp at k1 k2 k3;clear z t;go_wp2_with fail;refine(Zc2 m Q _ (by rw[Zb2];omega) (by omega)).mono ?_;rintro e w4 ⟨L2,rfl,C,D,r,x⟩;have f:=x _ _ _ d (by omega) (by decide);clear k1 k2 k3 x;have k1:=f.cell 1;have k2:=f.cell 2;have k3:=f.cell 3;simp at k1 k2 k3;clear d m;go_wp2_with fail;refine(Zjz r S ap (by omega) (by omega)).mono ?_;rintro e w5 ⟨sb,rfl,T,h5,y,u⟩;have g:=u _ _ _ f (by omega) (by decide);clear k1 k2 k3 u;have k1:=g.cell 1;have k2:=g.cell 2;have k3:=g.cell 3;simp at k1 k2 k3;clear f r;go_wp2_with fail;refine(Zc2 y D _ (by rw[Zb2];omega) (by omega)).mono ?_;rintro e w6 ⟨L3,rfl,G,N,K,I⟩;have q:=I _ _ _ g (by omega) (by decide);clear k1 k2 k3 I;have k1:=q.cell 1;have k2:=q.cell 2;have k3:=q.cell 3;simp at k1 k2 k3;clear g y;go_wp2_with fail;refine(Zc2 K N _ (by decide) (by omega)).mono ?_;rintro e w7 ⟨L4,rfl,U,hg,J,M⟩;have s:=M _ _ _ q (by omega) (by decide);clear k1 k2 k3 M;have k1:=s.cell 1;have k2:=s.cell 2;have k3:=s.cell 3;simp at k1 k2 k3;clear q K
      have p:Sh w w7 (showL (l.take (k+1))):=by
       have B:=J;rw[U.out,G.out,C.out,R.out]at B;rw[P.out];unfold lineL;simp only[n1,n2,n3,if_true,if_false,Bool.false_eq_true,Int.toNat_natCast];simp only[Zdh,←O.out,Zfk,X.out,T.out,List.append_assoc]at B;exact B
      clear J s k1 k2 k3;go_wp2;go_roundw
      case rel=>exact⟨k+1,by omega,by go_num,H,p⟩
      case measure=>simp[intOf];omega
     ·go_wp2_with fail;refine(Zjz t S an (by omega) (by omega)).mono ?_
      rintro e w3 ⟨sa,rfl,X,h7,m,i⟩;have d:=i _ _ _ z (by omega) (by decide);clear k1 k2 k3 i;have k1:=d.cell 1;have k2:=d.cell 2;have k3:=d.cell 3;simp at k1 k2 k3;clear z t;go_wp2_with fail;refine(Zc2 m Q _ (by rw[Zb2];omega) (by omega)).mono ?_;rintro e w4 ⟨L2,rfl,C,D,r,x⟩;have f:=x _ _ _ d (by omega) (by decide);clear k1 k2 k3 x;have k1:=f.cell 1;have k2:=f.cell 2;have k3:=f.cell 3;simp at k1 k2 k3;clear d m;go_wp2_with fail;refine(Zjz r S ap (by omega) (by omega)).mono ?_;rintro e w5 ⟨sb,rfl,T,h5,y,u⟩;have g:=u _ _ _ f (by omega) (by decide);clear k1 k2 k3 u;have k1:=g.cell 1;have k2:=g.cell 2;have k3:=g.cell 3;simp at k1 k2 k3;clear f r;go_wp2_with fail;refine(Zc2 y D _ (by rw[Zb2];omega) (by omega)).mono ?_;rintro e w6 ⟨L3,rfl,G,N,K,I⟩;have q:=I _ _ _ g (by omega) (by decide);clear k1 k2 k3 I;have k1:=q.cell 1;have k2:=q.cell 2;have k3:=q.cell 3;simp at k1 k2 k3;clear g y;go_wp2_with fail;refine(Zs7 K atx (by omega)).mono ?_;rintro e w7 ⟨sc,rfl,W,Z,J,M⟩;have s:=M _ _ _ q (by omega) (by decide);clear k1 k2 k3 M;have k1:=s.cell 1;have k2:=s.cell 2;have k3:=s.cell 3;simp at k1 k2 k3;clear q K;go_wp2_with fail;refine(Zc2 J N _ (by rw[Zb2];omega) (by omega)).mono ?_;rintro e w8 ⟨L4,rfl,U,hg,g6,hz⟩;have h0:=hz _ _ _ s (by omega) (by decide);clear k1 k2 k3 hz;have k1:=h0.cell 1;have k2:=h0.cell 2;have k3:=h0.cell 3;simp at k1 k2 k3;clear s J;go_wp2_with fail;refine(Zc2 g6 hg _ (by decide) (by omega)).mono ?_;rintro e w9 ⟨L5,rfl,gc,gn,g2,hy⟩;have hl:=hy _ _ _ h0 (by omega) (by decide);clear k1 k2 k3 hy;have k1:=hl.cell 1;have k2:=hl.cell 2;have k3:=hl.cell 3;simp at k1 k2 k3;clear h0 g6
      have p:Sh w w9 (showL (l.take (k+1))):=by
       have B:=g2;rw[gc.out,U.out,G.out,C.out,R.out]at B;rw[P.out];unfold lineL;simp only[n1,n2,n3,if_true,if_false,Bool.false_eq_true,Int.toNat_natCast];simp only[Zdh,←O.out,Zfk,X.out,T.out,W.out,List.append_assoc]at B;exact B
      clear g2 hl k1 k2 k3;go_wp2;go_roundw
      case rel=>exact⟨k+1,by omega,by go_num,H,p⟩
      case measure=>simp[intOf];omega
    ·have g3:Hid (E=([],k,F)):=by
      have e:=badI_at l k h9 (by rw[ha.out,h8.out];exact hq) hf.out;show _=_;rw[Hq.out,e,if_pos g7,Zp h9,ha.out];show([],k,actE ⟨ak,an,ap,atx⟩)=_;rw[h8.out]
     have gu:(F != 0)=true:=by simpa using hq
     go_wp2;go_ret3;exact⟨by rw[g3.out];rfl,hm.2⟩
   ·have gb:k=n:=by omega
    have g8:Hid (E=(showL l,0,0)):=by
     have e:=Zyr l (fun j hj=>hf.out j hj (by have:=hn.out;omega));show _=_;rw[Hq.out,e,hn.out,if_neg (Nat.lt_irrefl _)]
    have t:Sh w wr (showL l):=by
     rw[gb,List.take_of_length_le (by have:=hn.out;omega)]at hS;exact hS
    clear hS Y;go_wp2_with fail;refine(Zne _ _ _ t.1).mono ?_;rintro e w2 ⟨rfl,g9⟩;go_wp2;go_ret3;exact⟨by rw[g8.out];rfl,t.2.trans g9⟩
end Ln
namespace Ln
structure Env (w:World):Prop where
 words:Words w.cell?
 pow:Pow w
 mx:∃m,w.cell? ⟨1,0,none⟩=some (.int .i64 m)
 es:∃ev,w.cell? ⟨3,0,none⟩=some ev∧(ev=.nilIface∨∃te pe,ev=.iface te pe)
 er:∃ev,w.cell? ⟨4,0,none⟩=some ev∧(ev=.nilIface∨∃te pe,ev=.iface te pe)
theorem Env.kept(h:Env w)(b:Below w.heap.size w w'):Env w':=by
 have a:=Zaa b;obtain⟨m,c⟩:=h.mx;obtain⟨e1,d,g⟩:=h.es;obtain⟨e3,f,e⟩:=h.er;exact⟨h.words.mono a,h.pow.kept b,⟨m,a _ _ c⟩,⟨e1,a _ _ d,g⟩,⟨e3,a _ _ f,e⟩⟩
theorem Zjw(h:w'=w∨∃t,w'=Lib.bytesWorld w 5 t):Below w.heap.size w w':=by
 rcases h with rfl|⟨t,rfl⟩
 ·exact Zm _ _
 ·exact Zgl _ _ _
theorem Zti{v:Int}(a:0≤v):mkS (decL v)=mkS (Lib.itoa v):=by
 unfold decL Lib.itoa;rw[if_neg (by omega)]
theorem Zrv(s:ByteArray)(v:Int)(j:s.size≤33554432)(h:numP s.data.toList=some v)(w:World)(g:Env w) :
 Calls prog 33 #[.string s] w fun e w'=>e=.returned (.tuple #[.int .i64 v,.bool true])∧Below w.heap.size w w':=by
 obtain⟨b0,b1,_,_⟩:=Zz8 _ _ h
 have b:Lib.atoiAll s.data.toList=.ok v∧Lib.itoa v=s.data.toList:=by
  unfold numP at h;cases ha:Lib.atoiAll s.data.toList with
  |ok u =>
   rw[ha]at h;simp only at h;split at h
   ·rename_i q;injection h with h;subst h;exact⟨rfl,q.2⟩
   ·cases h
  |_=>rw[ha]at h;cases h
 have f:Hid (mkS (decL v)=s):=by
  show _=_;rw[Zti b0,b.2];rfl
 have i:=Zb b.1;clear h b;go_enter func33,ntmps33;go_wp2_with fail;refine(strconv_Atoi_ok s (by omega) v i.out _).mono ?_;rintro e w1 ⟨rfl,d⟩;have a:=Zjw d;clear d;go_wp2_with fail;refine(Zox v b0 b1 _ (g.pow.kept a)).mono ?_;rintro e w2 ⟨rfl,c⟩;rw[f.out];go_wp2;go_ret2;exact⟨rfl,a.trans (c.mono a.size)⟩
def NoNum(w:World)(e:Ending)(w':World):Prop:=∃v:Int,e=.returned (.tuple #[.int .i64 v,.bool false])∧Below w.heap.size w w'
theorem Zrw(s:ByteArray)(t:s.size≤33554432)(h:numP s.data.toList=none)(w:World)(l:Env w) :
 Calls prog 33 #[.string s] w (NoNum w):=by
 unfold numP at h;cases ha:Lib.atoiAll s.data.toList with
 |ok v =>
  rw[ha]at h;simp only at h;have p:=Lib.atoiAll_bounds ha;have g:=Zb ha;clear ha
  by_cases i:0≤v
  ·have d:Lib.itoa v≠s.data.toList:=fun e=>by rw[if_pos ⟨i,e⟩]at h;cases h
   have q:Hid (mkS (decL v)≠s):=by
    show _≠_;rw[Zti i];intro e;exact d (by rw[←e];rfl)
   clear h d;go_enter func33,ntmps33;go_wp2_with fail;refine(strconv_Atoi_ok s (by omega) v g.out _).mono ?_;rintro e w1 ⟨rfl,b⟩;have a:=Zjw b;clear b;go_wp2_with fail;refine(Zox v i p.2 _ (l.pow.kept a)).mono ?_;rintro e w2 ⟨rfl,o⟩;obtain⟨T,hT⟩:∃T,Hid (mkS (decL v)=T):=⟨_,rfl⟩;rw[hT.out]
   have r:(T.toList==s.toList)=false:=by
    rw[ByteArray.toList_eq,ByteArray.toList_eq,beq_eq_false_iff_ne];intro e;refine q.out ?_;rw[hT.out];exact(Zdp T).symm.trans ((congrArg mkS e).trans (Zdp s))
   go_wp2;go_ret2;exact⟨v,rfl,a.trans (o.mono a.size)⟩
  ·clear h;go_enter func33,ntmps33;go_wp2_with fail;refine(strconv_Atoi_ok s (by omega) v g.out _).mono ?_;rintro e w1 ⟨rfl,b⟩;have a:=Zjw b;clear b;go_wp2;go_ret2;exact⟨v,rfl,a⟩
 |range =>
  obtain⟨ev,j,n⟩:=l.er;have g:=Zb ha;clear ha h;go_enter func33,ntmps33;go_wp2_with fail;refine(strconv_Atoi_range s (by omega) g.out ev _ j n).mono ?_;rintro e w1 ⟨N,rfl,_,_,a⟩;go_wp2;go_ret2;exact⟨_,rfl,a⟩
 |_ =>
  obtain⟨ev,j,n⟩:=l.es;have c:∀v,Lib.atoiAll s.data.toList≠.ok v:=fun v e=>by rw[e]at ha;cases ha
  have f:Lib.atoiAll s.data.toList≠.range:=fun e=>by rw[e]at ha;cases ha
  have k:=Zb c;have m:=Zb f;clear ha h c f;go_enter func33,ntmps33;go_wp2_with fail;refine(Zjb s (by omega) k.out m.out ev _ j n).mono ?_;rintro e w1 ⟨N,rfl,_,_,a⟩;go_wp2;go_ret2;exact⟨0,rfl,a⟩
end Ln
namespace Ln
def UnOut(o:Option (List UInt8))(w:World)(e:Ending)(w':World):Prop:=(∃(x:ByteArray) (b:Bool),e=.returned (.tuple #[.string x,.bool b])∧match o with|some t=>x=mkS t∧b=true|none=>b=false)∧Below w.heap.size w w'
theorem Zn9{o:Option (List UInt8)}(x:ByteArray)(a:o=none)(b:Below w.heap.size w w'):UnOut o w (.returned (.tuple #[.string x,.bool false])) w':=⟨⟨x,false,rfl,by rw[a]⟩,b⟩
theorem Zv7{o:Option (List UInt8)}{x:ByteArray}{t:List UInt8}(a:o=some t)(b:x=mkS t)(c:Below w.heap.size w w'):UnOut o w (.returned (.tuple #[.string x,.bool true])) w':=⟨⟨x,true,rfl,by rw[a];exact⟨b,rfl⟩⟩,c⟩
def hexI(c:UInt8):Int:=match hexv c with|some k=>(k:Int)|none=> -1
theorem Zqt{c:UInt8}(h:hexv c=some k):hexI c=k:=by unfold hexI;rw[h]
theorem Zqu{c:UInt8}(h:hexv c=none):hexI c= -1:=by unfold hexI;rw[h]
theorem Znt(c:UInt8)(w:World)(z:Int)(a:z=c.toNat) :
 Calls prog 55 #[.string {data:=#[48,49,50,51,52,53,54,55,56,57,97,98,99,100,101,102] },.int .u8 z] w fun e w'=>e=.returned (.int .i64 (hexI c))∧w'=w:=by
 subst a;refine(strings_IndexByte _ _ w).mono ?_;rintro e w' ⟨rfl,rfl⟩;refine⟨?_,rfl⟩;have:((c.toNat:Int).toNat.toUInt8)=c:=by rw[Int.toNat_natCast];exact UInt8.ofNat_toNat
 rw[this];exact Zak (Zkg c)
theorem hblS_len{a n:Nat}(b:a≤k)(c:k≤n)(d:n≤33554432):a*1≤140737488355328:=by omega
theorem or_val(a b:Nat)(c:a<16)(d:b<16):bits BinOp.or IntKind.i64 ((a:Int)*16) (b:Int)%256=((UInt8.ofNat (16*a+b)).toNat:Int):=by
 have h:∀x y:Fin 16,bits BinOp.or IntKind.i64 ((x.val:Int)*16) (y.val:Int)%256=((UInt8.ofNat (16*x.val+y.val)).toNat:Int):=by decide +kernel
 exact h ⟨a,c⟩ ⟨b,d⟩
theorem un_step{l:List UInt8}{bs:List UInt8}(h:Zbx l=(Zbx (l.drop i)).map (bs++·))(hi:i+1<l.length){a:Nat}(c:hexv l[i]=some a)(d:hexv l[i+1]=some b) :
 Zbx l=(Zbx (l.drop (i+2))).map ((bs++[UInt8.ofNat (16*a+b)])++·):=by
 rw[h,Zm7 l i hi,c,d]
 cases Zbx (l.drop (i+2))<;>simp
theorem un_bad{l:List UInt8}{bs:List UInt8}(h:Zbx l=(Zbx (l.drop i)).map (bs++·))(hi:i+1<l.length)(hn:hexv l[i]=none∨hexv l[i+1]=none):Zbx l=none:=by
 rw[h,Zm7 l i hi]
 rcases hn with e|e
 ·rw[e];rfl
 ·rw[e]
  cases hexv l[i]<;>rfl
theorem Zv9(s:ByteArray)(hs:s.size≤33554432)(w:World):Calls prog 34 #[.string s] w (UnOut (Zbx s.data.toList) w):=by
 have f:s.data.toList.length=s.size:=Array.length_toList;obtain⟨O,E⟩:∃O,Hid (Zbx s.data.toList=O):=⟨_,rfl⟩;rw[E.out];have eq2:(s.size:Int).tmod 2=((s.size%2:Nat):Int):=(Int.ofNat_tmod _ 2).symm
 by_cases t:s.size%2=1
 ·have hn:O=none:=by rw[←E.out];exact Zpl _ (by rw[f];exact t)
  have X:(s.size:Int)%2=1:=by omega
  clear E eq2;go_enter func34,ntmps34;go_wp2;go_ret2;exact Zn9 _ hn (Zm _ _)
 ·have X:(s.size:Int)%2=0:=by omega
  have h5:s.size%2=0:=by omega
  clear eq2 t;go_enter func34,ntmps34;go_wp2
  go_loopw [4,5] (fun v i wr=>∃(k:Nat) (bs:List UInt8),k≤s.size∧k%2=0∧i=.int .i64 k∧bs.length≤k∧OwnB wr w.heap.size v bs∧Hid (Zbx s.data.toList=(Zbx (s.data.toList.drop k)).map (bs++·))∧Below w.heap.size w wr) (fun _ i _=>s.size-(intOf i).toNat)
  case atStart=>exact⟨0,[],Zf _,rfl,rfl,Za _,OwnVec.nil _ _ _ _,by show _=_;simp,Zm _ _⟩
  case round =>
   clear X;obtain⟨k,bs,hk,h3,rfl,C,G,B,p⟩:=hrel
   by_cases H:k<s.size
   ·have g:k+1<s.size:=by omega
    obtain⟨ca,I⟩:∃c:UInt8,s[k]=c:=⟨_,rfl⟩;obtain⟨cb,z⟩:∃c:UInt8,s[k+1]=c:=⟨_,rfl⟩;have e1:s.data.toList[k]'(by rw[f];exact H)=ca:=I;have e2:s.data.toList[k+1]'(by rw[f];exact g)=cb:=z
    have m:Hid (∀a b,hexv ca=some a→hexv cb=some b→Zbx s.data.toList=(Zbx (s.data.toList.drop (k+2))).map ((bs++[UInt8.ofNat (16*a+b)])++·)):=by
     intro a b y x;exact un_step B.out (by rw[f];exact g) (by rw[e1];exact y) (by rw[e2];exact x)
    have j:Hid (hexv ca=none∨hexv cb=none→O=none):=by
     intro hq;rw[←E.out];exact un_bad B.out (by rw[f];exact g) (by rw[e1,e2];exact hq)
    obtain⟨k1,A⟩:∃k1,Hid (k+1=k1):=⟨_,rfl⟩;have h0:k1<s.size:=by have:=A.out;omega
    have Z:s[k1]=cb:=by rw[←z];congr 1;exact A.out.symm
    have h1:IntKind.i64.wrap ((k:Int)+1)=(k1:Int):=by rw[IntKind.wrap_i64];have:=A.out;omega
    clear e1 e2 B z;go_wp2_with fail;refine Zr [10] (.q 0 (.q 1 (.q 2 (.q 4 (.q 5 (.q 6 (.q 7 (.l 3 (.l 8 (.q 9 (.qc 10 .nil))))))))))) fun W h=>?_
    repeat(refine Zq ?_;simp only[sx])
    refine Zd fun K D=>?_
    try simp only[sy]
    go_simp
    ((with_reducible refine(Znt ca _ _ rfl).mono ?_))
    rintro e w2 ⟨rfl,rfl⟩;obtain⟨VA,r⟩:∃V,Hid (hexI ca=V):=⟨_,rfl⟩;rw[r.out];refine D.out _ _ (h) fun h=>?_
    clear D K
    try simp only[sx]
    refine Zd fun K D=>?_
    try simp only[sy]
    go_simp
    ((with_reducible refine(Znt cb _ _ rfl).mono ?_))
    rintro e w2 ⟨rfl,rfl⟩;obtain⟨VB,o⟩:∃V,Hid (hexI cb=V):=⟨_,rfl⟩;rw[o.out];refine D.out _ _ (h) fun h=>?_
    clear D K
    try simp only[sx]
    repeat(refine Zq ?_;simp only[sx])
    refine Zai ?_;have R:=G.kept h;have d:=p.trans (h.mono p.size);clear G h p;cases y:hexv ca with
    |none =>
     obtain rfl: -1=VA:=(Zqu y).symm.trans r.out;have hn:O=none:=j.out (.inl y);clear m j;go_wp2;go_ret2;exact Zn9 _ hn d
    |some va =>
     obtain rfl:(va:Int)=VA:=(Zqt y).symm.trans r.out;have J:=Zxu y;cases x:hexv cb with
     |none =>
      obtain rfl: -1=VB:=(Zqu x).symm.trans o.out;have hn:O=none:=j.out (.inr x);clear m j;go_wp2;go_ret2;exact Zn9 _ hn d
     |some vb =>
      obtain rfl:(vb:Int)=VB:=(Zqt x).symm.trans o.out;have T:=Zxu x;have u:=Zb (m.out va vb y x);clear m j y x r o;obtain⟨cc,F⟩:∃cc,Hid (UInt8.ofNat (16*va+vb)=cc):=⟨_,rfl⟩;have h2:bits BinOp.or IntKind.i64 ((va:Int)*16) (vb:Int)%256=(cc.toNat:Int):=by rw[←F.out];exact or_val va vb J T
      rw[F.out]at u;have S:=d.size;go_wp2_with (at_builtin;refine Zdj (n:=140737488355328) cc Za7 Zb0 _ _ rfl rfl rfl R d S rfl (Za _) (by omega) (by omega) ?_);intro v3 w3 M L _;go_wp2;go_roundw
      case rel=>exact⟨k+2,bs++[cc],by omega,by omega,by go_num,by simp;omega,M,u,L⟩
      case measure=>simp[intOf];omega
   ·have P:k=s.size:=by omega
    have Q:O=some bs:=by
     rw[←E.out,B.out,P,Zv8 _ _ (by rw[f];exact Za _)];simp
    have N:=hblS_len C hk hs;have ga:=Zd3 (G.reads (bs:=1) N);rw[mkS_bstr]at ga;obtain⟨U,Y⟩:∃U,Hid (mkS bs=U):=⟨_,rfl⟩;rw[Y.out]at ga;clear B G;go_wp2;go_ret2;exact Zv7 Q Y.out.symm p
end Ln
namespace Ln
theorem Zwk(s:ByteArray)(f:s.size≤33554432)(w:World)(c:Env w) :
 Calls prog 32 #[.string s,.string {data:=#[32] }] w fun e w'=>e=.returned (.slice (some ⟨w.heap.size,0,none⟩) (spl 32 s.data.toList).length (spl 32 s.data.toList).length)∧w'=w.alloc (.cells (((spl 32 s.data.toList).map fun x=>Value.string (mkS x)).toArray) 9):=by
 obtain⟨m,a⟩:=c.mx;refine(strings_Split s {data:=#[32] } m w (by omega) a (by decide)).mono ?_;rintro e w' ⟨rfl,rfl⟩;have b:Lib.countB s {data:=#[32] }+1=(spl 32 s.data.toList).length:=Zvj 32 s;have d:Lib.splitB {data:=#[32] } 0 (Lib.countB s {data:=#[32] }) s=(spl 32 s.data.toList).map mkS:=Zng 32 s;rw[b,d,List.map_map];exact⟨rfl,rfl⟩
theorem Zyd(s:ByteArray)(c:s.size≤33554432)(w:World)(b:Env w) :
 Calls prog 18 #[.string s,.string {data:=#[10] }] w fun e w'=>e=.returned (.tuple #[.string (mkS (Lib.cut s.data.toList [10]).1),.string (mkS (Lib.cut s.data.toList [10]).2.1),.bool (Lib.cut s.data.toList [10]).2.2])∧∃n,w'=w.drewN n:=by
 obtain⟨m,a⟩:=b.mx;exact strings_Cut s {data:=#[10] } m w (by omega) a
theorem number_any(s:ByteArray)(c:s.size≤33554432)(w:World)(d:Env w) :
 Calls prog 33 #[.string s] w fun e w'=>∃(v:Int) (b:Bool),e=.returned (.tuple #[.int .i64 v,.bool b])∧Hid (b=true→numP s.data.toList=some v)∧Hid (b=false→numP s.data.toList=none)∧Below w.heap.size w w':=by
 cases h:numP s.data.toList with
 |some v =>
  refine(Zrv s v c h w d).mono ?_;rintro e w' ⟨rfl,a⟩;exact⟨v,true,rfl,fun _=>rfl,(by intro e;cases e),a⟩
 |none =>
  refine(Zrw s c h w d).mono ?_;rintro e w' ⟨v,rfl,a⟩;exact⟨v,false,rfl,(by intro e;cases e),fun _=>rfl,a⟩
theorem Zuf(s:ByteArray)(c:s.size≤33554432)(w:World) :
 Calls prog 34 #[.string s] w fun e w'=>∃(x:ByteArray) (b:Bool),e=.returned (.tuple #[.string x,.bool b])∧Hid (b=true→Zbx s.data.toList=some x.data.toList)∧Hid (b=false→Zbx s.data.toList=none)∧Below w.heap.size w w':=by
 refine(Zv9 s c w).mono ?_;rintro e w' ⟨⟨x,b,rfl,a⟩,d⟩;refine⟨x,b,rfl,?_,?_,d⟩
 ·intro e;cases h:Zbx s.data.toList with
  |none=>rw[h]at a;rw[e]at a;cases a
  |some t=>rw[h]at a;rw[a.1];rfl
 ·intro e;cases h:Zbx s.data.toList with
  |none=>rfl
  |some t=>rw[h]at a;rw[e]at a;cases a.2
def OneOut(o:Option Ac)(w:World)(e:Ending)(w':World):Prop:=(∃(k n p:Int) (t:ByteArray) (b:Bool),e=.returned (.tuple #[.agg #[.int .i64 k,.int .i64 n,.int .i64 p,.string t],.bool b])∧match o with|some x=>x=⟨k,n,p,t⟩∧b=true|none=>b=false)∧Below w.heap.size w w'
end Ln
namespace Ln
section
variable {H:Type} {enc:TypeId×Value→H} {P:Program} {w:World} {base:Nat} {sp:Nat→Bool} {held:Bool} {t e:TypeId} {n fuel:Nat} {cs:List Value} {x:DataW H×List MemPlace}
theorem arr_strs(ht:P.underlying t=some (.array n e))(p:P.underlying e=some .string)(q:P.cellsOf e=1)(hn:P.cellsOf t=n)(h:DataW.trod enc P w base sp held fuel t cs=some x){l:List (List UInt8)}(b:x.1=.agg (l.map fun z=>.lit (.string z))):cs=l.map fun z=>Value.string (mkS z):=by
 obtain⟨xs,m,rfl,rfl,a,k,g⟩:=DataW.trod_array ht h;injection b with b;have c:l.length=n:=by have:=congrArg List.length b;simp at this;omega
 refine List.ext_getElem (by rw[a,hn];simp[c]) (fun i d r=>?_);have hi:i<n:=by rw[a,hn]at d;exact d
 have j:=g i hi;rw[q,Nat.mul_one,Zp (by omega)]at j;obtain⟨z,e1,e2,_⟩:=DataW.trod_string p j;have f:(xs.map (·.1))[i]?=(l.map fun z=>DataW.lit (.string z))[i]?:=by rw[b]
 rw[List.getElem?_map,List.getElem?_map,Zp (by omega),Zp (by omega),e2]at f;simp at f
 have o:(cs.drop i).take 1=[cs[i]]:=by
  rw[List.drop_eq_getElem_cons d];rfl
 rw[o]at e1;injection e1 with e1;rw[e1,List.getElem_map,←f];rfl
end
theorem gWords : prog.globalNamed "sheaves/lines.words" = some 0 := by kernel_rfl
theorem tWords:(prog.globals[0]?).map (·.type)=some 63:=by kernel_rfl
theorem Zy6{t:TypeId}{cs:Array Value}{fuel:Nat}{ps:List MemPlace}{H:Type}{enc:TypeId × Value → H}{base:Nat}{sp:Nat → Bool}{held:Bool}(a : prog.globalNamed "sheaves/lines.words" = some g)(ht : (prog.globals[g]?).map (·.type) = some t)(c : W.var? prog "sheaves/lines.words" = some cs)(hd:DataW.trod enc prog W base sp held fuel t cs.toList=some (Rows.laid_sheaves_lines_words,ps)):Words W.cell?:=by
 obtain rfl:=Option.some.inj (gWords.symm.trans a);obtain rfl:=Option.some.inj (tWords.symm.trans ht);have e0:=arr_strs (l:=Zkz) underlying63 underlying9 (by kernel_rfl) (by kernel_rfl) hd rfl;intro k b;rw[World.var?_cell a c k,←Array.getElem?_toList,e0,List.getElem?_map];unfold Ze9;rw[Zp (show k<Zkz.length from b)];rfl
theorem gPow : prog.globalNamed "internal/strconv.uint64pow10" = some 2 := by kernel_rfl
theorem tPow:(prog.globals[2]?).map (·.type)=some 190:=by kernel_rfl
theorem pow_of{t:TypeId}{cs:Array Value}{fuel:Nat}{ps:List MemPlace}{H:Type}{enc:TypeId × Value → H}{base:Nat}{sp:Nat → Bool}{held:Bool}(b : prog.globalNamed "internal/strconv.uint64pow10" = some g)(ht : (prog.globals[g]?).map (·.type) = some t)(a : W.var? prog "internal/strconv.uint64pow10" = some cs)(hd:DataW.trod enc prog W base sp held fuel t cs.toList=some (Rows.laid_internal_strconv_uint64pow10,ps)):Pow W:=by
 obtain rfl:=Option.some.inj (gPow.symm.trans b);obtain rfl:=Option.some.inj (tPow.symm.trans ht);unfold Pow Lib.TabIs;rw[a];have:=Lib.cells_of_tab (zs:=Lib.pow10Tab) underlying190 underlying160 (by kernel_rfl) (by kernel_rfl) (p:=ps) (hd.trans (by rfl));rw[←this]
end Ln
end Go.Proofs.YtbcpbnfojfiekaaGreatDoor
