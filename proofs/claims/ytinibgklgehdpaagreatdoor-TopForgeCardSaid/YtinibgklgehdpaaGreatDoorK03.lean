/- A part of what the last text stands on. -/
import Derived.Lib.ConvBytes
import Derived.Laws.BytesArg
import Derived.Test.YtinibgklgehdpaaGreatDoorK01
import Derived.Test.YtinibgklgehdpaaGreatDoorK02
namespace Go.Proofs.YtinibgklgehdpaaGreatDoor
open Go.ChangeShapes Go.WideShapes Go.ChangeAt Go.RowKit Qa Qb Qc
set_option linter.all false
set_option maxHeartbeats 20000000
set_option maxRecDepth 100000
variable{P:Program}{w' W wr:World}{a:Act}{ops:Array Oper}{rest:List Oper}{Q:Exit→Act→World→Prop}{K:Act→World→Prop}{v:Value}{h:View}{e:TypeId}{k i j g sz bs b c:Nat}{x y:Operand}{α:Type}{xs:List α}{enc:α→Value}{R:View→List Value→α→Prop}
theorem Zd9{o:Oper}{w:World}{t:TypeId}{n B:Nat}(u:α)(hgd:o.guard=none)(ho:o.op=.store t x y)(hx:a.eval x=.pointer (some ⟨g,i,none⟩))(hy:a.eval y=enc u)(ht:(P.info? t).map (·.size)=some 1)(hn:(enc u).cells=#[enc u])(h1:(enc u).oneCell'=true)(hb:OwnVec enc e w B (.slice (some ⟨g,0,none⟩) n c) xs)(hi:i<xs.length)(h:∀w',OwnVec enc e w' B (.slice (some ⟨g,0,none⟩) n c) (xs.set i u)→w.grownBy w' (some g)→wpList P ops Q rest (a.put o.dst undef) w'):wpList P ops Q (o::rest) a w :=
 wpList_plain hgd fun _ hK=>Zoc u ho hx hy ht hn h1 hb hi fun w' h2 h3=>hK _ _ (h w' h2 h3)
theorem RVec.one(x:α)(hc:h ⟨g,0,none⟩=some (enc x))(hb:bs≤140737488355328):RVec enc bs h (.slice (some ⟨g,0,none⟩) 1 1) [x] :=
 ⟨_,1,rfl,Nat.le_refl _,by decide,by simpa using hb,(fun h=>by cases h),fun _=>⟨g,0,rfl,fun i hi=>by
  have:i=0:=by simpa using hi
  subst this;simpa using hc⟩⟩
namespace Fl
abbrev Own:=Nat→Option (Nat×Nat)
def Zas(o:Own)(w:World):View:=fun a=>if (o a.block).isSome then none else w.cell? a
theorem Zag(o:Own)(w:World):VLe (Zas o w) w.cell?:=fun a v e=>by
 unfold Zas at e
 split at e
 ·cases e
 ·exact e
structure Lim (o:Own) (w:World):Prop where
 none:∀b,w.heap.size≤b→o b=none
 seven:∀b k,o b=some (7,k)→k=b
structure Fr (T:Nat×Nat→Prop) (o:Own) (w:World) (o':Own) (w':World):Prop where
 os:w'.os=w.os
 tape:w'.tape=w.tape
 output:w'.output=w.output
 size:w.heap.size≤w'.heap.size
 lim:Lim o' w'
 keep:∀b,b<w.heap.size→(∀t,o b=some t→¬T t)→o' b=o b∧w'.heap[b]?=w.heap[b]?
 stay:∀b t,b<w.heap.size→o b=some t→T t→∃t',o' b=some t'∧T t'
section
variable {T T':Nat×Nat→Prop} {o o' o2:Own} {w w' w2:World}
theorem Fr.refl(T:Nat×Nat→Prop)(hl:Lim o w):Fr T o w o w :=
 ⟨rfl,rfl,rfl,Nat.le_refl _,hl,fun _ _ _=>⟨rfl,rfl⟩,fun _ t _ h ht=>⟨t,h,ht⟩⟩
theorem Fr.view(h:Fr T o w o' w'):VLe (Zas o w) (Zas o' w'):=fun a v e=>by
 unfold Zas at e⊢
 split at e
 ·cases e
 ·rename_i hn
  have hlt:=World.block_lt_of_cell? w a e
  have h0:o a.block=none:=by simpa using hn
  obtain⟨h1,h2⟩:=h.keep a.block hlt (fun t ht=>by rw[h0]at ht;cases ht)
  rw[if_neg (by rw[h1,h0];simp),World.cell?_of_block h2]
  exact e
theorem Fr.trans(h:Fr T o w o' w')(k:Fr T' o' w' o2 w2)(hT:∀t,T' t→T t∨(t.1=7∧w.heap.size≤t.2)):Fr T o w o2 w2:=by
 have hno:∀b t,b<w.heap.size→o' b=some t→T' t→T t:=fun b t hb hob ht=>by
  rcases hT t ht with h1|⟨h1,h2⟩
  ·exact h1
  ·obtain⟨t1,t2⟩:=t;simp at h1 h2;subst h1;have:=h.lim.seven b t2 hob;omega
 refine⟨k.os.trans h.os,k.tape.trans h.tape,k.output.trans h.output,Nat.le_trans h.size k.size,k.lim,fun b hb hn=>?_,fun b t hb hob ht=>?_⟩
 ·obtain⟨h1,h2⟩:=h.keep b hb hn;obtain⟨k1,k2⟩:=k.keep b (Nat.lt_of_lt_of_le hb h.size) (fun t ht ht'=>hn t (by rw[←h1];exact ht) (hno b t hb ht ht'));exact⟨k1.trans h1,k2.trans h2⟩
 ·obtain⟨t',h1,h2⟩:=h.stay b t hb hob ht
  by_cases hk:T' t'
  ·obtain⟨t2,k1,k2⟩:=k.stay b t' (Nat.lt_of_lt_of_le hb h.size) h1 hk
   by_cases h7:∃k7,t2=(7,k7)
   ·obtain⟨k7,rfl⟩:=h7
    rcases hT _ k2 with q|⟨_,q⟩
    ·exact⟨_,k1,q⟩
    ·have:=k.lim.seven b k7 k1;simp at q;omega
   ·rcases hT _ k2 with q|⟨q,_⟩
    ·exact⟨_,k1,q⟩
    ·exact absurd ⟨t2.2,by rw[←q]⟩ h7
  ·obtain⟨k1,_⟩:=k.keep b (Nat.lt_of_lt_of_le hb h.size) (fun t ht ht'=>by rw[h1]at ht;injection ht with ht;subst ht;exact hk ht');exact⟨t',k1.trans h1,h2⟩
theorem Fr.mono(h:Fr T o w o' w')(hT:∀t,T t→T' t):Fr T' o w o' w':=by
 refine⟨h.os,h.tape,h.output,h.size,h.lim,fun b hb hn=>h.keep b hb (fun t ht ht'=>hn t ht (hT t ht')),fun b t hb hob ht=>?_⟩
 by_cases hk:T t
 ·obtain⟨t',h1,h2⟩:=h.stay b t hb hob hk;exact⟨t',h1,hT _ h2⟩
 ·obtain⟨h1,_⟩:=h.keep b hb (fun t' ht ht'=>by rw[hob]at ht;injection ht with ht;subst ht;exact hk ht');exact⟨t,h1.trans hob,ht⟩
theorem Fr.of_below(hl:Lim o w)(hb:Below w.heap.size w w'):Fr T o w o w' :=
 ⟨hb.os,hb.tape,hb.output,hb.size,⟨fun b h=>hl.none b (Nat.le_trans hb.size h),hl.seven⟩,fun b h _=>⟨rfl,hb.block b h⟩,fun _ t _ h ht=>⟨t,h,ht⟩⟩
theorem Zae(hl:Lim o w)(hb:Below w.heap.size w w'):VLe (Zas o w) (Zas o w'):=(Fr.of_below (T:=fun _=>False) hl hb).view
theorem Zby(hl:Lim o w):VLe (View.from w'.cell? w.heap.size) (Zas o w'):=fun a v e=>by
 unfold View.from at e
 unfold Zas
 split at e
 ·cases e
 ·rename_i hn
  rw[if_neg (by rw[hl.none a.block (by omega)];simp)]
  exact e
def mark(o:Own)(b:Nat)(t:Option (Nat×Nat)):Own:=fun k=>if k=b then t else o k
theorem Zc7(o:Own)(b:Nat)(t:Option (Nat×Nat)):mark o b t b=t:=if_pos rfl
theorem Zbz(o:Own)(t:Option (Nat×Nat))(h:k≠b):mark o b t k=o k:=if_neg h
theorem Lim.mark{b:Nat}{t:Option (Nat×Nat)}(hl:Lim o w)(hb:b<w.heap.size)(ht:∀k,t=some (7,k)→k=b):Lim (mark o b t) w:=by
 refine⟨fun k hk=>?_,fun k j h=>?_⟩
 ·rw[Zbz _ _ (by omega)];exact hl.none k hk
 ·unfold Fl.mark at h;split at h
  ·rename_i e;subst e;exact ht j h
  ·exact hl.seven k j h
theorem Fr.alloc_mark(hl:Lim o w)(x:Obj)(t:Option (Nat×Nat))(ht:∀k,t=some (7,k)→k=w.heap.size):Fr T o w (mark o w.heap.size t) (w.alloc x):=by
 have hb:=Zac w x;have h0:=Fr.of_below (T:=T) hl hb;refine⟨rfl,rfl,rfl,hb.size,h0.lim.mark (by simp) ht,fun b hb' hn=>?_,fun b t' hb' hob hT=>⟨t',by rw[Zbz _ _ (by omega)];exact hob,hT⟩⟩;rw[Zbz _ _ (by omega)];exact h0.keep b hb' hn
theorem Fr.grown{t:Nat×Nat}(hl:Lim o w)(hg:w.grownBy w' (some g))(ho:o g=some t)(ht:T t):Fr T o w o w':=by
 refine⟨hg.os,hg.tape,hg.output,hg.size,⟨fun b h=>hl.none b (Nat.le_trans hg.size h),hl.seven⟩,fun b hb hn=>⟨rfl,hg.block b hb (fun e=>?_)⟩,fun _ t _ h ht=>⟨t,h,ht⟩⟩;injection e with e;subst e;exact hn t ho ht
structure Row {α:Type} (o:Own) (t:Nat×Nat) (sz:Nat) (R:View→List Value→α→Prop) (e:TypeId) (w:World) (v:Value) (xs:List α):Prop where
 own:∃css:List (List Value),w.ownsRow 0 e sz v xs.length css.flatten∧css.length=xs.length∧∀i (hi:i<xs.length),∃cs,css[i]?=some cs∧cs.length=sz∧R (Zas o w) cs xs[i]
 mark:∀g,v.ownBlock=some g→o g=some t
variable {α:Type} {sz:Nat} {R:View→List Value→α→Prop} {e:TypeId} {v:Value} {xs:List α} {t:Nat×Nat}
theorem Row.nil(o:Own)(t:Nat×Nat)(sz:Nat)(R:View→List Value→α→Prop)(e:TypeId)(w:World):Row o t sz R e w (.slice none 0 0) [] :=
 ⟨⟨[],World.ownsRow_nil _ _ _ _,rfl,fun i hi=>by simp at hi⟩,fun g hg=>by cases hg⟩
theorem Row.ownSl(h:Row o t sz R e w v xs):OwnSl sz (fun _ cs x=>R (Zas o w) cs x) e w 0 v xs:=⟨h.own⟩
theorem Row.form(h:Row o t sz R e w v xs):∃A c,v=.slice A xs.length c:=h.ownSl.form
theorem Row.fr(hR:Mono R)(h:Row o t sz R e w v xs)(f:Fr T o w o' w')(ht:¬T t):Row o' t sz R e w' v xs:=by
 obtain⟨css,h1,h2,h3⟩:=h.own
 have hk:∀g,v.ownBlock=some g→o' g=o g∧w'.heap[g]?=w.heap[g]?:=fun g hg=>by
  have hm:=h.mark g hg;refine f.keep g ?_ (fun t' ht' hT=>?_)
  ·exact(h1.lt g hg).2
  ·rw[hm]at ht';injection ht' with ht';subst ht';exact ht hT
 refine⟨⟨css,?_,h2,fun i hi=>?_⟩,fun g hg=>(hk g hg).1.trans (h.mark g hg)⟩
 ·obtain⟨q1,q2⟩:=h1;refine⟨q1,?_⟩
  rcases q2 with q2|⟨g,cap,cur,q3,q4,q5,q6⟩
  ·exact .inl q2
  ·refine .inr ⟨g,cap,cur,q3,q4,?_,q6⟩;rw[(hk g (by rw[q3];rfl)).2];exact q5
 ·obtain⟨cs,q1,q2,q3⟩:=h3 i hi;exact⟨cs,q1,q2,hR _ _ _ _ q3 f.view⟩
theorem Row.lt(h:Row o t sz R e w v xs):∀g,v.ownBlock=some g→g<w.heap.size:=fun g hg=>(h.ownSl.lt g hg).2
theorem Row.reads(hR:Mono R)(h:Row o t sz R e w v xs)(hbs:xs.length*bs≤140737488355328):RSl sz R bs w.cell? v xs:=by
 have hO:OwnSl sz R e w 0 v xs:=by
  obtain⟨css,h1,h2,h3⟩:=h.own;refine⟨css,h1,h2,fun i hi=>?_⟩;obtain⟨cs,q1,q2,q3⟩:=h3 i hi;refine⟨cs,q1,q2,hR _ _ _ _ q3 (fun a u hu=>?_)⟩;unfold Zas at hu;split at hu
  ·cases hu
  ·rename_i hn;unfold View.but;rw[if_neg (fun e=>?_)]
   ·exact hu
   ·have:=h.mark a.block e.symm;rw[this]at hn;exact hn rfl
 exact hO.reads hR hbs
end
theorem Zce(hR:Mono R){ow:Own}{tg:Nat×Nat}{o:Oper}{t:TypeId}{bytes n:Nat}(x:α)(cs:List Value)(hE:Elem P t e sz bytes)(s y:Operand)(ho:o.op=.call {callee:=.builtin .append,args:=#[s,y],argTypes:=#[t,t] })(hs:a.eval s=v)(hrow:Row ow tg sz R e wr v xs)(hlim:Lim ow wr)(h7:tg.1≠7){gy:Nat}(hx:a.eval y=.slice (some ⟨gy,0,none⟩) 1 1)(hgy:gy=wr.heap.size)(hl:cs.length=sz)(h1:(cs.all fun u=>u.oneCell')=true)(hxR:R (Zas ow wr) cs x)(hc:n≤140737488355328)(hn:(xs.length+1)*bytes≤n)(hn':xs.length+1≤n)(h:∀v' w' o',Row o' tg sz R e w' v' (xs++[x])→Fr (fun t=>t=tg) ow wr o' w'→K (a.put o.dst v') w'):o.wp P a (wr.alloc (.cells cs.toArray e)) K Q:=by
 subst hgy
 obtain⟨ht,hsz,i,z,hi,hz0,hz1,hz2,hzs⟩:=hE
 obtain⟨css,q1,q2,q3⟩:=hrow.own
 have h1':∀u∈cs,u.oneCell'=true:=fun u hu=>List.all_eq_true.1 h1 u hu
 have hnews:∀j u,cs[j]?=some u→(wr.alloc (.cells cs.toArray e)).cell? ((⟨wr.heap.size,0,none⟩:Addr).add j)=some u:=fun j u hu=>by
  rw[Zbs,Nat.zero_add,cell_of_row _ _ j cs.toArray e (0,0) (heap_alloc_new wr _)]
  simpa using hu
 have q1':=q1.alloc (.cells cs.toArray e)
 obtain⟨v',w',hr,hro,hg⟩:=Zc2 (P:=P) (wr.alloc (.cells cs.toArray e)) 0 t o.type e i z sz bytes ht hi hz0 hz1 hz2 hzs hsz v xs.length css.flatten q1' (some ⟨wr.heap.size,0,none⟩) 1 1 cs (by rw[hl,Nat.one_mul]) (fun h=>by cases h)
  (fun ad had=>by obtain rfl:=Option.some.inj had;exact hnews) h1' (Zbw (Nat.le_trans hn' hc)) (Nat.le_trans hn hc) (Nat.zero_le _)
 have hloc:=Zg1 (P:=P) (wr.alloc (.cells cs.toArray e)) 0 t o.type e i z sz bytes ht hi hz0 hz1 hz2 v xs.length css.flatten q1' ⟨wr.heap.size,0,none⟩ 1 1 cs (by rw[hl,Nat.one_mul]) hnews h1' (by decide) (Nat.le_trans hn' hc) (Nat.le_trans hn hc) hr
 have g1:=World.grownBy_alloc wr (.cells cs.toArray e) v.ownBlock
 have g2:=Zaf g1 hg
 obtain⟨g',hg'⟩:∃g',v'.ownBlock=some g':=by
  rcases hro.2 with ⟨_,h0⟩|⟨g,cap,cur,rfl,_⟩
  ·omega
  ·exact⟨g,rfl⟩
 have hglt:g'<w'.heap.size:=(hro.lt g' hg').2
 have hg0:ow g'=some tg∨wr.heap.size≤g':=by
  rcases hloc with e|e
  ·exact .inl (hrow.mark g' (by rw[←e,hg']))
  ·rw[hg']at e;injection e with e;right;simp at e;omega
 have hfr:Fr (fun t=>t=tg) ow wr (mark ow g' (some tg)) w':=by
  refine⟨g2.os,g2.tape,g2.output,g2.size,Lim.mark ⟨fun b hb=>hlim.none b (Nat.le_trans g2.size hb),hlim.seven⟩ hglt (fun k hk=>?_),fun b hb hn=>?_,fun b t' hb hob ht=>?_⟩
  ·injection hk with hk;rw[hk]at h7;exact absurd rfl h7
  ·have hbg:b≠g':=fun e=>by
    subst e
    rcases hg0 with h0|h0
    ·exact hn _ h0 rfl
    ·omega
   refine⟨Zbz _ _ hbg,g2.block b hb (fun e=>?_)⟩
   exact hn tg (hrow.mark b e.symm) rfl
  ·by_cases e:b=g'
   ·subst e;exact⟨tg,Zc7 _ _ _,rfl⟩
   ·exact⟨t',by rw[Zbz _ _ e];exact hob,ht⟩
 unfold Oper.wp execOp
 simp[ho,resolve,invoke,builtin,hs,hx,hr,Result.andThen,Oper.upon]
 refine h v' w' _ ⟨⟨css++[cs],?_,by simp[q2],fun k hk=>?_⟩,fun g hg=>?_⟩ hfr
 ·rw[List.flatten_append,List.length_append]
  simpa using hro
 ·by_cases hlt:k<xs.length
  ·obtain⟨c,r1,r2,r3⟩:=q3 k hlt
   refine⟨c,by rw[List.getElem?_append_left (by omega)];exact r1,r2,?_⟩
   rw[List.getElem_append_left hlt]
   exact hR _ _ _ _ r3 hfr.view
  ·have:k=xs.length:=by simp at hk;omega
   subst this
   refine⟨cs,by rw[List.getElem?_append_right (by omega)];simp[q2],hl,?_⟩
   rw[List.getElem_append_right (by omega)]
   simpa using hR _ _ _ _ hxR hfr.view
 ·rw[hg']at hg;injection hg with hg;subst hg;exact Zc7 _ _ _
theorem Zcu(hR:Mono R){ow:Own}{tg:Nat×Nat}{o:Oper}{t:TypeId}{bytes n:Nat}(x:α)(cs:List Value)(hE:Elem P t e sz bytes)(s y:Operand)(hgd:o.guard=none)(ho:o.op=.call {callee:=.builtin .append,args:=#[s,y],argTypes:=#[t,t] })(hs:a.eval s=v)(hrow:Row ow tg sz R e wr v xs)(hlim:Lim ow wr)(h7:tg.1≠7){gy:Nat}(hx:a.eval y=.slice (some ⟨gy,0,none⟩) 1 1)(hgy:gy=wr.heap.size)(hl:cs.length=sz)(h1:(cs.all fun u=>u.oneCell')=true)(hxR:R (Zas ow wr) cs x)(hc:n≤140737488355328)(hn:(xs.length+1)*bytes≤n)(hn':xs.length+1≤n)(h:∀v' w' o',Row o' tg sz R e w' v' (xs++[x])→Fr (fun t=>t=tg) ow wr o' w'→wpList P ops Q rest (a.put o.dst v') w'):wpList P ops Q (o::rest) a (wr.alloc (.cells cs.toArray e)) :=
 wpList_plain hgd fun _ hK=>Zce hR x cs hE s y ho hs hrow hlim h7 hx hgy hl h1 hxR hc hn hn' fun v' w' o' h2 h3=>hK _ _ (h v' w' o' h2 h3)
def Sec(w:World)(g off:Nat)(cs:List Value):Prop:=∃t whole,Blk w g t whole∧off+cs.length≤whole.size∧∀j,j<cs.length→whole[off+j]?=cs[j]?
def Only(w w':World)(g off n:Nat):Prop:=∀t whole,Blk w g t whole→∃whole',Blk w' g t whole'∧whole'.size=whole.size∧∀k,(k<off∨off+n≤k)→whole'[k]?=whole[k]?
section
variable {w w' w2:World} {g off n:Nat} {cs:List Value}
theorem Only.refl(w:World)(g off n:Nat):Only w w g off n:=fun t whole h=>⟨whole,h,rfl,fun _ _=>rfl⟩
theorem Only.trans(h:Only w w' g off n)(k:Only w' w2 g off n):Only w w2 g off n:=fun t whole hb=>by
 obtain⟨x,h1,h2,h3⟩:=h t whole hb
 obtain⟨y,k1,k2,k3⟩:=k t x h1
 exact⟨y,k1,k2.trans h2,fun i hi=>(k3 i hi).trans (h3 i hi)⟩
theorem Only.of_same(h:g<w.heap.size→w'.heap[g]?=w.heap[g]?):Only w w' g off n:=fun t whole hb=>⟨whole,(h hb.lt).trans hb,rfl,fun _ _=>rfl⟩
theorem Sec.cell(h:Sec w g off cs)(hj:j<cs.length):w.cell? ⟨g,off+j,none⟩=some cs[j]:=by
 obtain⟨t,whole,hb,h1,h2⟩:=h;rw[hb.cell,h2 j hj,List.getElem?_eq_getElem hj]
theorem Sec.lt(h:Sec w g off cs):g<w.heap.size:=by
 obtain⟨t,whole,hb,_⟩:=h;exact hb.lt
theorem Sec.same(h:Sec w g off cs)(hs:w'.heap[g]?=w.heap[g]?):Sec w' g off cs:=by
 obtain⟨t,whole,hb,h1⟩:=h;exact⟨t,whole,hs.trans hb,h1⟩
theorem Sec.only{off2 n2:Nat}(h:Sec w g off cs)(k:Only w w' g off2 n2)(hd:off+cs.length≤off2∨off2+n2≤off):Sec w' g off cs:=by
 obtain⟨t,whole,hb,h1,h2⟩:=h;obtain⟨x,k1,k2,k3⟩:=k t whole hb;refine⟨t,x,k1,by omega,fun j hj=>?_⟩;rw[k3 (off+j) (by omega)];exact h2 j hj
theorem Sec.storeG(h:Sec w g off cs)(vs:List Value)(hi:i+vs.length≤cs.length){o:Oper}{t:TypeId}(ho:o.op=.store t x y)(hx:a.eval x=.pointer (some ⟨g,off+i,none⟩))(hy:a.eval y=v)(hin:(P.info? t).map (·.size)=some vs.length)(hv:v.cells.toList=vs)(h1:(vs.all fun u=>u.oneCell')=true)(k:∀w',Sec w' g off (cs.take i++(vs++cs.drop (i+vs.length)))→w.grownBy w' (some g)→Only w w' g (off+i) vs.length→K (a.put o.dst undef) w'):o.wp P a w K Q:=by
 obtain⟨te,whole,hb,q1,q2⟩:=h
 have hvl:v.cells.size=vs.length:=by rw[←hv];simp
 refine Zav ho hx hy hin hvl hb (by omega) (by rw[hv];exact h1) (fun w' hb' hg=>k w' ?_ hg ?_)
 ·rw[hv]at hb'
  refine⟨te,_,hb',by simp;omega,fun j hj=>?_⟩
  simp only[List.length_append,List.length_take,List.length_drop]at hj
  simp only[List.getElem?_toArray]
  have hw:∀m,m<cs.length→whole.toList[off+m]?=cs[m]?:=fun m hm=>by rw[Array.getElem?_toList];exact q2 m hm
  by_cases h1:j<i
  ·rw[List.getElem?_append_left (by simp;omega),List.getElem?_take,if_pos (by omega),hw j (by omega),List.getElem?_append_left (by simp;omega),List.getElem?_take,if_pos h1]
  ·by_cases h2:j<i+vs.length
   ·rw[List.getElem?_append_right (by simp;omega),List.getElem?_append_left (by simp;omega),List.getElem?_append_right (by simp;omega),List.getElem?_append_left (by simp;omega)]
    congr 1
    simp;omega
   ·rw[List.getElem?_append_right (by simp;omega),List.getElem?_append_right (by simp;omega),List.getElem?_drop,List.getElem?_append_right (by simp;omega),List.getElem?_append_right (by simp;omega),List.getElem?_drop]
    rw[show off+i+vs.length+(off+j-(List.take (off+i) whole.toList).length-vs.length)=off+j by simp;omega,hw j (by omega)]
    congr 1
    simp;omega
 ·intro t2 whole2 hb2
  rw[hv]at hb'
  have:whole2=whole∧t2=te:=by
   have:=hb2.symm.trans hb
   injection this with this
   injection this with e1 e2
   exact⟨e1,e2⟩
  obtain⟨rfl,rfl⟩:=this
  refine⟨_,hb',by simp;omega,fun m hm=>?_⟩
  simp only[List.getElem?_toArray]
  rw[←Array.getElem?_toList]
  rcases hm with hm|hm
  ·rw[List.getElem?_append_left (by simp;omega),List.getElem?_take,if_pos hm]
  ·rw[List.getElem?_append_right (by simp;omega),List.getElem?_append_right (by simp;omega),List.getElem?_drop]
   congr 1
   simp;omega
theorem Sec.store(h:Sec w g off cs)(vs:List Value)(hi:i+vs.length≤cs.length){o:Oper}{t:TypeId}(hgd:o.guard=none)(ho:o.op=.store t x y)(hx:a.eval x=.pointer (some ⟨g,off+i,none⟩))(hy:a.eval y=v)(hin:(P.info? t).map (·.size)=some vs.length)(hv:v.cells.toList=vs)(h1:(vs.all fun u=>u.oneCell')=true)(k:∀w',Sec w' g off (cs.take i++(vs++cs.drop (i+vs.length)))→w.grownBy w' (some g)→Only w w' g (off+i) vs.length→wpList P ops Q rest (a.put o.dst undef) w'):wpList P ops Q (o::rest) a w :=
 wpList_plain hgd fun K hK=>h.storeG vs hi ho hx hy hin hv h1 fun w' q1 q2 q3=>hK _ _ (k w' q1 q2 q3)
end
end Fl
theorem Za9:Zjx Tryz.prog 54 5 1:=Zzp (z:=.int .u8 0) Tryz.underlying54 (by kernel_rfl) rfl
theorem Zk6:Zjx Tryz.prog 41 9 16:=Zzp (z:=.string ByteArray.empty) Tryz.underlying41 (by kernel_rfl) rfl
def encS(s:ByteArray):Value:=.string s
theorem Zb8(b:UInt8):(encB b).oneCell'=true:=rfl
theorem Zia(b:ByteArray):(encS b).oneCell'=true:=rfl
abbrev RTexts:=RVec encS 16
abbrev OwnB:=OwnVec encB 5
abbrev OwnS:=OwnVec encS 9
def Zca(s:ByteArray):List UInt8:=s.data.toList
theorem Zch(s:ByteArray):(Zca s).length=s.size:=by unfold Zca;rw[Array.length_toList];rfl
section
variable {P:Program} (w:World)
theorem Zh2(n:Nat)(s:ByteArray)(size:Nat)(hn:n=s.size):(Builtin.firstCells size n (.string s)).run P w=.ok ((Zca s).map encB).toArray w:=by
 subst hn;obtain⟨⟨l⟩⟩:=s;simp[Builtin.firstCells,Zca];intro a _;rfl
theorem Zl2(t u ty e:TypeId)(i:TypeInfo)(z:Value)(base:Nat)(ht:P.underlying t=some (.slice e))(hu:P.underlying u=some .string)(hi:P.info? e=some i)(hz:i.zero=some z)(hsize:i.size=1)(hby:i.bytes=1)(hzs:z.cells.size=1)(v:Value)(n:Nat)(xs:List Value)(hown:w.ownsRow base e 1 v n xs)(s:ByteArray)(hbytes:n+s.size≤140737488355328)(hbase:base≤w.heap.size) :
 ∃v' w',(Builtin.append_ #[t,u] ty #[v,.string s]).run P w=.ok v' w'∧w'.ownsRow base e 1 v' (n+s.size) (xs++(Zca s).map encB)∧w.grownBy w' v.ownBlock:=by
 obtain⟨news,hnews⟩:∃news,news=(Zca s).map encB:=⟨_,rfl⟩;have hl:news.length=s.size:=by rw[hnews,List.length_map,Zch]
 have h1:∀u∈news,u.oneCell'=true:=fun u hu=>by rw[hnews]at hu;obtain⟨x,_,rfl⟩:=List.mem_map.1 hu;rfl
 have hfs:∀w:World,(Builtin.firstCells 1 s.size (.string s)).run P w=.ok news.toArray w:=fun w=>by rw[hnews];exact Zh2 w s.size s 1 rfl
 rw[←hnews];clear hnews;have hm0:s.size=s.size:=rfl;obtain⟨m,hm'⟩:∃m,s.size=m:=⟨_,rfl⟩;rw[hm']at hl hfs hbytes⊢;have hm0:=hm';have h63:n+m≤maxLen:=Zbw hbytes;have hsmall:n+m≤9223372036854775807:=by omega
 have hlen:(xs++news).length=(n+m)*1:=by rw[List.length_append,hown.1,hl,Nat.add_mul];omega
 have grown:∀(old:Nat),old<n+m→∀(row:Option Nat),
  (w.drew.alloc (.cells (xs.toArray++news.toArray++Builtin.zeroCells z.cells (grownCap w (n+m) old e-(n+m))) e)).ownsRow base e 1
   (.slice (some ⟨w.heap.size,0,none⟩) (n+m) (grownCap w (n+m) old e)) (n+m) (xs++news) ∧
  w.grownBy (w.drew.alloc (.cells (xs.toArray++news.toArray++Builtin.zeroCells z.cells (grownCap w (n+m) old e-(n+m))) e)) row:=by
  intro old ho row;have hge:=grownCap_ge w (n+m) old e;have hcm:grownCap w (n+m) old e≤maxLen:=grownCap_le_maxLen w (n+m) old e h63;refine⟨⟨hlen,.inr ⟨w.heap.size,_,_,rfl,hbase,heap_alloc_new w.drew _,hge,hcm,?_,?_⟩⟩,⟨rfl,rfl,rfl,by simp,fun k hk _=>Below.heap_alloc w.drew _ k hk⟩⟩
  ·simp only[Array.size_append,List.size_toArray,size_zeroCells,hzs,hown.1,hl];omega
  ·simp only[Array.toList_append,List.append_assoc];rw[←List.append_assoc,←hlen];exact List.take_left
 rcases hown.2 with ⟨rfl,rfl⟩|⟨g,cap,cur,rfl,hbg,hg,hnc,hcm,hcs,htake⟩
 ·have hx:xs=[]:=List.eq_nil_of_length_eq_zero (by simpa using hown.1);subst hx
  by_cases hm:m=0
  ·subst hm;have hn:news=[]:=List.eq_nil_of_length_eq_zero (by simpa using hl);subst hn;refine⟨.slice none 0 0,w,?_,World.ownsRow_nil w base e 1,⟨rfl,rfl,rfl,Nat.le_refl _,fun _ _ _=>rfl⟩⟩;simp[Builtin.append_,run_underlying ht,run_underlying hu,sizeOf,typeInfo,hi,Builtin.lenOf,hsize,hm0,hfs,storeCells]
  ·have hgr:=grown 0 (by omega) (Value.ownBlock (.slice none 0 0));simp only[Nat.zero_add,List.nil_append]at hgr⊢;refine⟨_,_,?_,hgr.1,hgr.2⟩;have h63':¬(9223372036854775807<(m:Int)):=by omega
   have h48':¬(281474976710656<Builtin.nextslicecap m 0*i.bytes):=by rw[nextslicecap_zero (by omega),hby];omega
   have hfn:(Builtin.firstCells 1 0 (.slice none 0 0)).run P w.drew=.ok #[] w.drew:=by simp[Builtin.firstCells]
   simp[Builtin.append_,run_underlying ht,run_underlying hu,sizeOf,typeInfo,zeroValue,hi,hz,Builtin.lenOf,hm,hfn,h63',h48',Question.forced,newRow,grownCap,hsize,hfs,hm0]
 ·by_cases hroom:n+m≤cap
  ·have hfit:n*1+news.length≤cur.size:=by rw[hl,hcs];omega
   have hst:=run_storeCells_at P g (n*1) e news 0 cur w hg (by simpa using hfit) h1;simp only[Nat.add_zero,Nat.mul_one]at hst;refine⟨_,w.setRow g (cur.toList.take (n*1)++news++cur.toList.drop (n*1+news.length)).toArray,?_,⟨hlen,.inr ⟨g,cap,_,rfl,hbg,setRow_heap w g cur _ e _ hg,hroom,hcm,?_,?_⟩⟩,⟨rfl,rfl,rfl,by simp[World.setRow],fun k _ hk=>setRow_other w g k _ (fun e=>hk (by simp[Value.ownBlock,e]))⟩⟩
   ·simp[Builtin.append_,run_underlying ht,run_underlying hu,sizeOf,typeInfo,hi,Builtin.lenOf,hroom,hfs,Addr.add_lit,hst,hm0,hsize]
   ·simp only[List.size_toArray,List.length_append,List.length_take,List.length_drop,Array.length_toList];omega
   ·rw[htake,←hlen];exact List.take_left
  ·have holds:∀j u,xs[j]?=some u→w.cell? ((⟨g,0,none⟩:Addr).add j)=some u:=hown.cells (g:=g) rfl;have hgr:=grown cap (by omega) (Value.ownBlock (.slice (some ⟨g,0,none⟩) n cap));refine⟨_,_,?_,hgr.1,hgr.2⟩;have h63':¬(9223372036854775807<((n:Int)+(m:Int))):=by omega
   have h48':¬(281474976710656<Builtin.nextslicecap (n+m) cap*i.bytes):=by
    have:=growslice_fits (need:=n+m) (old:=cap) (bytes:=i.bytes) (by omega) (by rw[hby];omega);rw[hby]at this ⊢;omega
   have hfo:=run_firstCells_some (P:=P) w.drew 1 n ⟨g,0,none⟩ n cap xs (by rw[hown.1]) (by simpa using holds);simp[Builtin.append_,run_underlying ht,run_underlying hu,sizeOf,typeInfo,zeroValue,hi,hz,Builtin.lenOf,hroom,h63',h48',Question.forced,newRow,grownCap,hsize,hfs,hfo,hm0];rw[←Array.append_assoc,show xs.toArray++news.toArray=(xs++news).toArray by simp]
end
theorem Zii{o:Oper}{t u:TypeId}{base n:Nat}{xs:List UInt8}(s:ByteArray)(hE:Zjx P t e 1)(hu:P.underlying u=some .string)(x y:Operand)(hgd:o.guard=none)(ho:o.op=.call {callee:=.builtin .append,args:=#[x,y],argTypes:=#[t,u] })(hs:a.eval x=v)(hy:a.eval y=.string s)(hown:OwnVec encB e wr base v xs)(hbl:Below base W wr)(hbase:base≤wr.heap.size)(hc:n≤140737488355328)(hn:xs.length+s.size≤n)(h:∀v' w',OwnVec encB e w' base v' (xs++Zca s)→Below base W w'→wr.grownBy w' v.ownBlock→wpList P ops Q rest (a.put o.dst v') w'):wpList P ops Q (o::rest) a wr:=by
 obtain⟨ht,i,z,hi,hz0,hz1,hz2,hzs⟩:=hE;obtain⟨v',w',hr,hro,hg⟩:=Zl2 (P:=P) wr t u o.type e i z base ht hu hi hz0 hz1 hz2 hzs v xs.length (xs.map encB) hown.own s (Nat.le_trans hn hc) hbase;refine wpList_plain hgd fun _ hK=>?_
 unfold Oper.wp execOp;simp[ho,resolve,invoke,builtin,hs,hy,hr,Result.andThen,Oper.upon];refine hK _ _ (h v' w' ⟨?_⟩ (hbl.grown hg hbase (fun g hg=>(hown.own.lt g hg).1)) hg);rw[List.map_append,List.length_append,Zch];exact hro
theorem Zjv(w:World)(e:TypeId)(s:ByteArray):Below w.heap.size w (Lib.bytesWorld w e s) :=
 ⟨rfl,rfl,rfl,by rw[Lib.bytesWorld_size];omega,fun k hk=>Lib.bytesWorld_at_old w e s k hk⟩
theorem Zju(w:World)(e:TypeId)(s:ByteArray)(hn:s.size≤140737488355328):Zao (Lib.bytesWorld w e s).cell? (.slice (some ⟨w.heap.size,0,none⟩) s.size (grownCap w s.size 0 e)) (Zca s):=by
 refine⟨_,_,by rw[Zch],by rw[Zch];exact grownCap_ge _ _ _ _,grownCap_le_maxLen w _ _ e (Zbw hn),by rw[Zch];omega,(fun h=>by cases h),fun hp=>⟨w.heap.size,0,rfl,fun i hi=>?_⟩⟩;rw[Zch]at hi;rw[Nat.zero_add,Lib.bytesWorld_cell w e s i hi];simp only[encB,Zca,List.getD,Array.getElem?_toList];rw[Array.getElem?_eq_getElem (by exact hi)];simp
theorem Zg2{o:Oper}{src dst:TypeId}(s:ByteArray)(hs:P.underlying src=some .string)(hd:P.underlying dst=some (.slice e))(he:P.underlying e=some (.int .u8))(hgd:o.guard=none)(y:Operand)(ho:o.op=.convert src dst y)(hy:a.eval y=.string s)(hn:s.size≤140737488355328)(h:∀v' w',Zao w'.cell? v' (Zca s)→Below wr.heap.size wr w'→wpList P ops Q rest (a.put o.dst v') w'):wpList P ops Q (o::rest) a wr:=by
 have hr:=Lib.run_convert_string_bytes (P:=P) wr src dst e s hs hd he;refine wpList_plain hgd fun _ hK=>?_
 unfold Oper.wp execOp;simp[ho,resolve,hy,hr,Result.andThen,Oper.upon];exact hK _ _ (h _ _ (Zju wr e s hn) (Zjv wr e s))
def bstr(xs:List UInt8):ByteArray:=⟨xs.toArray⟩
theorem Zlo(xs:List UInt8):(bstr xs).toList=xs:=by rw[ByteArray.toList_eq];rfl
theorem Zlp(xs:List UInt8):(bstr xs).size=xs.length:=by simp[bstr,ByteArray.size]
theorem Zv3(a b:List UInt8):((bstr a).toList==(bstr b).toList)=(a==b):=by rw[Zlo,Zlo]
theorem Zlz(xs:List UInt8):strOfNums (xs.map fun x=>(x.toNat:Int))=bstr xs:=by
 simp only[strOfNums,bstr,List.map_map]
 congr 2
 conv=>rhs;rw[←List.map_id xs]
 refine List.map_congr_left fun x _=>?_
 simp
theorem Zet{w:World}{xs:List UInt8}(hr:Zao w.cell? v xs):(convert 54 9 v).run Tryz.prog w=.ok (.string (bstr xs)) w:=by
 obtain⟨A,c,rfl,h1,h2,h3,h4,h5⟩:=hr;cases A with
 |none =>
  have hc:=h4 rfl;have:xs=[]:=List.eq_nil_of_length_eq_zero (by omega);subst this;exact run_convert_bytes_nil w 54 5 Tryz.underlying54 Tryz.underlying5 _ _ 9 Tryz.underlying9
 |some a =>
  rcases Nat.eq_zero_or_pos xs.length with h0|h0
  ·have:xs=[]:=List.eq_nil_of_length_eq_zero h0;subst this;rw[run_convert_bytes_string w 54 9 5 _ _ c Tryz.underlying54 Tryz.underlying5 Tryz.underlying9,run_bytesToString w a ([]:List UInt8).length c [] (by simp[loadCells,loadCellsFrom])];rfl
  ·obtain⟨b,o,e,hc⟩:=h5 h0;obtain rfl:=Option.some.inj e
   have hcell:∀i,i<xs.length→w.cell? ⟨b,o+i,none⟩=some (.int .u8 ((xs.map fun x=>(x.toNat:Int)).getD i 0)):=by
    intro i hi;rw[hc i hi];simp only[encB,List.getD,List.getElem?_map,List.getElem?_eq_getElem hi,Option.map_some,Option.getD_some]
   have hx:=run_convert_bytes_arg (P:=Tryz.prog) w 54 5 Tryz.underlying54 Tryz.underlying5 b o xs.length c (xs.map fun x=>(x.toNat:Int)) (List.length_map _) hcell 9 Tryz.underlying9;rw[hx];have e:=Zlz xs;rw[e]
theorem Zb6(va vb:Value)(a b:List UInt8)(w:World)(ha:Zao w.cell? va a)(hb:Zao w.cell? vb b) :
 Calls Tryz.prog 100 #[va,vb] w fun e w'=>e=.returned (.bool (a==b))∧w=w':=by
 have ga:=Zet ha;have gb:=Zet hb;have He:=Lib.hid (Zv3 a b);clear ha hb
 go_enter Tryz.func100,Tryz.ntmps100
 go_wp2;go_ret;exact⟨Zap He.out,rfl⟩
theorem OwnSl.reads_from(hR:Mono R){w:World}(h:OwnSl sz (RFrom b R) e w b v xs)(hbs:xs.length*bs≤140737488355328):RSl sz R bs (View.from w.cell? b) v xs:=by
 have hlt:=h.lt;obtain⟨A,c,e1,q1,q2,q3,q4,q5⟩:=h.reads (RFrom.mono hR) hbs;refine⟨A,c,e1,q1,q2,q3,q4,fun hp=>?_⟩;obtain⟨g,o,ea,hc⟩:=q5 hp;refine⟨g,o,ea,fun i hi=>?_⟩;have hg:=(hlt g (by rw[e1,ea];rfl)).1;obtain⟨cs,k1,k2,k3⟩:=hc i hi;refine⟨cs,k1,fun j hj=>?_,k3⟩;unfold View.from;rw[if_neg (by simp;omega)];exact k2 j hj
theorem OwnVec.reads_from{base:Nat}{w:World}(h:OwnVec enc e w base v xs)(hb:xs.length*bs≤140737488355328){b0:Nat}(hb0:b0≤base){g:Option Nat}(hg:∀k,g=some k→k<base):RVec enc bs (View.from (View.but w.cell? g) b0) v xs:=by
 have hlt:=h.own.lt;obtain⟨A,c,e1,q1,q2,q3,q4,q5⟩:=h.reads_but hb hg;refine⟨A,c,e1,q1,q2,q3,q4,fun hp=>?_⟩;obtain⟨b,o,ea,hc⟩:=q5 hp;refine⟨b,o,ea,fun i hi=>?_⟩;have hb':=(hlt b (by rw[e1,ea];rfl)).1;unfold View.from;rw[if_neg (by simp;omega)];exact hc i hi
theorem OwnVec.from_{base:Nat}{w:World}(h:OwnVec enc e w base v xs)(hb:xs.length*bs≤140737488355328){b0:Nat}(hb0:b0≤base):RVec enc bs (View.from w.cell? b0) v xs :=
 (h.reads_from hb hb0 (g:=none) (by simp)).mono (Za0 _ (View.but_le _ _))
theorem RVec.len(hr:RVec enc bs h v xs):xs.length*bs≤140737488355328:=by obtain⟨A,c,_,_,_,h,_⟩:=hr;exact h
def RDig(h:View)(cs:List Value)(x:List UInt8):Prop:=∃d,cs=[d]∧Zao h d x
theorem RDig.mono:Mono RDig:=fun h h' cs x ⟨d,e,hd⟩ hle=>⟨d,e,RVec.mono hd hle⟩
abbrev RDigs:=RSl 1 RDig 24
theorem Zez:Elem Tryz.prog 44 54 1 24:=Znz (z:=.slice none 0 0) Tryz.underlying44 (by kernel_rfl) rfl (by decide)
theorem RDigs.at{h:View}{A:Option Addr}{n c:Nat}{xs:List (List UInt8)}(hr:RDigs h (.slice A n c) xs):n=xs.length∧n≤c∧n*24≤140737488355328∧∀k (hk:k<xs.length),∃b o d,A=some ⟨b,o,none⟩∧h ⟨b,o+k,none⟩=some d∧Zao h d xs[k]:=by
 obtain⟨A',c',e,h1,_,h2,_,h3⟩:=hr;injection e with e1 e2 e3;subst e1 e2 e3;refine⟨rfl,h1,h2,fun k hk=>?_⟩;obtain⟨b,o,ea,hc⟩:=h3 (by omega);obtain⟨cs,hl,hcell,d,rfl,hd⟩:=hc k hk;have:=hcell 0 (by omega);rw[Nat.mul_one,Nat.add_zero]at this;exact⟨b,o,d,ea,this,hd⟩
def Zi7(l:List (List UInt8))(i:Nat):Int:=match l[i]? with|some x=>if x.length=32 then(if (l.take i).any (·==x)then 7 else 0)else 4|none=>0
def Ze0(l:List (List UInt8)):Int:=match (List.range l.length).find? (fun i=>Zi7 l i != 0)with|some i=>Zi7 l i|none=>0
theorem Zpg{l:List (List UInt8)}(hk:k<l.length)(h:¬l[k].length=32):Zi7 l k=4:=by
 unfold Zi7;rw[List.getElem?_eq_getElem hk];simp[h]
theorem Zqu{l:List (List UInt8)}(hk:k<l.length)(h:l[k].length=32):Zi7 l k=if (l.take k).any (·==l[k])then 7 else 0:=by
 unfold Zi7;rw[List.getElem?_eq_getElem hk];simp[h]
theorem Zk9{l:List (List UInt8)}{f:Int}(hk:k<l.length)(h:∀j,j<k→Zi7 l j=0)(hf:Zi7 l k=f)(h0:f≠0):Ze0 l=f:=by
 have:(List.range l.length).find? (fun i=>Zi7 l i != 0)=some k:=by
  rw[List.find?_range_eq_some];exact⟨by simp[hf,h0],List.mem_range.2 hk,fun j hj=>by simp[h j hj]⟩
 unfold Ze0;simp only[this,hf]
theorem Ztf{l:List (List UInt8)}(h:∀j,j<l.length→Zi7 l j=0):Ze0 l=0:=by
 have:(List.range l.length).find? (fun i=>Zi7 l i != 0)=none:=by
  rw[List.find?_eq_none];intro x hx;simp[h x (List.mem_range.1 hx)]
 unfold Ze0;simp only[this]
theorem Zj5{p:Nat→Int}(h:∀j,j<k→p j=0)(hk:p k=0):∀j,j<k+1→p j=0:=fun j hj=>by
 rcases Nat.lt_or_ge j k with h1|h1
 ·exact h j h1
 ·have:j=k:=by omega
  subst this;exact hk
def Zar(n:Int):UInt8:=UInt8.ofNat (n%256).toNat
theorem Zaw(n:Int):IntKind.u8.wrap n=((Zar n).toNat:Int):=by
 rw[IntKind.wrap_u8];unfold Zar;rw[UInt8.toNat_ofNat'];omega
theorem byteI_mod(n:Int):Zar (n%256)=Zar n:=by unfold Zar;rw[Int.emod_emod]
def Zb9(n:Int):List UInt8:=[Zar (n/65536),Zar (n/256),Zar n]
theorem Zn6{w:World}{t:TypeId}(hb:Blk w g t (xs.map enc).toArray)(h1:xs.length≤140737488355328)(h2:xs.length*bs≤140737488355328):RVec enc bs w.cell? (.slice (some ⟨g,0,none⟩) xs.length xs.length) xs :=
 ⟨_,_,rfl,Nat.le_refl _,Zbw h1,h2,(fun h=>by cases h),fun _=>⟨g,0,rfl,fun i hi=>by rw[Nat.zero_add,hb.cell];simp[hi]⟩⟩
def Keeps(w w':World):Prop:=∀b T cs,T≠5→Blk w b T cs→Blk w' b T cs
theorem Keeps.trans{a b c:World}(h:Keeps a b)(k:Keeps b c):Keeps a c:=fun x T cs hT hb=>k x T cs hT (h x T cs hT hb)
theorem Zbq{w:World}(h:Below w.heap.size w w'):Keeps w w':=fun _ _ _ _ hb=>hb.kept h
theorem Zcp(w:World)(o:Obj):Keeps w (w.alloc o):=Zbq (Zac _ _)
theorem Zat{w:World}{B:Nat}{xs:List UInt8}(ho:OwnB w B v xs)(hg:w.grownBy w' v.ownBlock):Keeps w w':=fun b T cs hT hb=>by
 refine hb.grown hg (fun e=>?_)
 rcases ho.own.2 with ⟨rfl,_⟩|⟨g,cap,cur,rfl,_,h3,_⟩
 ·cases e
 ·have e1:b=g:=by
   have:=e.symm
   simp[Value.ownBlock]at this
   exact this.symm
  subst e1
  unfold Blk at hb
  rw[h3]at hb
  injection hb with hb
  injection hb with _ hb
  exact hT hb.symm
theorem Zfq(v:Value)(n:Int)(xs:List UInt8)(B:Nat)(w:World)(ho:OwnB w B v xs)(hB:B≤w.heap.size)(h0:0≤n)(hn:n≤140737488355328)(hsz:xs.length+3≤140737488355328) :
 Calls Tryz.prog 65 #[v,.int .i64 n] w fun e w'=>∃v',e=.returned v'∧Below B w w'∧Keeps w w'∧OwnB w' B v' (xs++Zb9 n)∧w.grownBy w' v.ownBlock:=by
 obtain⟨A,c,rfl⟩:=ho.form;have u0:=Zaw (n/65536);have u1:=Zaw (n/256);have u2:=Zaw n;have hW:Hid (Zb9 n=[Zar (n/65536),Zar (n/256),Zar n]):=rfl;generalize Zar (n/65536)=U0 at u0 hW;generalize Zar (n/256)=U1 at u1 hW;generalize Zar n=U2 at u2 hW;generalize Zb9 n=Wb at hW⊢
 go_enter Tryz.func65,Tryz.ntmps65
 go_wp2_with (at_builtin;first
  |(refine Za5 (n:=140737488355328) (W:=w) (ys:=[U0,U1,U2]) Za9 Zb8 _ _ rfl rfl rfl (ho.alloc _) ((Below.refl B w).alloc hB _) (Zau _ hB) rfl (Zn6 (xs:=[U0,U1,U2]) (Blk.new _ _ _) (by simp) (by simp)) (by decide) (by simp;omega) (by simp;omega) ?_))
 intro v1 w1 ho1 hb1 hg1;have hk:=(Zcp w (.cells #[encB U0,encB U1,encB U2] 5)).trans (Zat (ho.alloc _) hg1);have hg2:=Zaf (World.grownBy_alloc w (.cells #[encB U0,encB U1,encB U2] 5) (Value.slice A xs.length c).ownBlock) hg1;clear hg1 ho;go_wp2;go_ret;exact⟨_,rfl,hb1,hk,by rw[hW.out];exact ho1,hg2⟩
def Zed(l:List (List UInt8)):List UInt8:=Zar l.length::l.flatten
theorem Zpd(l:List (List UInt8))(hk:k<l.length):(l.take (k+1)).flatten=(l.take k).flatten++l[k]∧((l.take k).flatten).length+l[k].length≤l.flatten.length:=by
 have e:(l.take (k+1)).flatten=(l.take k).flatten++l[k]:=by
  rw[List.take_succ_eq_append_getElem hk,List.flatten_append,List.flatten_singleton]
 refine⟨e,?_⟩;have h2:l.flatten=(l.take (k+1)).flatten++(l.drop (k+1)).flatten:=by rw[←List.flatten_append,List.take_append_drop]
 rw[h2,List.length_append,e,List.length_append];omega
theorem Zha(w0:World)(v vl:Value)(xs:List UInt8)(l:List (List UInt8))(w:World)(hbl:Below w0.heap.size w0 w)(ho:OwnB w w0.heap.size v xs)(hv:RDigs w0.cell? vl l)(hsz:xs.length+1+l.flatten.length≤140737488355328) :
 Calls Tryz.prog 96 #[v,vl] w fun e w'=>∃v',e=.returned v'∧Below w0.heap.size w0 w'∧Keeps w w'∧OwnB w' w0.heap.size v' (xs++Zed l):=by
 obtain⟨oA,oc,rfl⟩:=ho.form;obtain⟨A,c,rfl,_⟩:=id hv;obtain⟨_,hcap,hlen,hel⟩:=hv.at;have Hel:=Lib.hid hel;clear hel hv;have hz:=hbl.size;have e0:=Zaw l.length;have hD:Hid (Zed l=Zar l.length::l.flatten):=rfl;generalize Zar l.length=U0 at e0 hD;generalize Zed l=Db at hD⊢
 go_enter Tryz.func96,Tryz.ntmps96
 go_wp2_with (at_builtin;first
  |(refine Za5 (n:=140737488355328) (W:=w0) (ys:=[U0]) Za9 Zb8 _ _ rfl rfl rfl (ho.alloc _) (hbl.alloc hz _) (Zau _ hz) rfl (Zn6 (xs:=[U0]) (Blk.new _ _ _) (by simp) (by simp)) (by decide) (by simp;omega) (by simp;omega) ?_))
 intro v1 w1 ho1 hb1 hg1;have hk1:=(Zcp w (.cells #[encB U0] 5)).trans (Zat (ho.alloc _) hg1);clear hg1 ho;obtain⟨Y,hY⟩:∃Y,Hid (xs++[U0]=Y):=⟨_,rfl⟩;have hYl:Y.length=xs.length+1:=by rw[←hY.out];simp
 rw[hY.out]at ho1;go_wp2
 go_loopw [0,15] (fun v i wr=>∃k:Nat,k≤l.length∧i=.int .i64 k∧OwnB wr w0.heap.size v (Y++(l.take k).flatten)∧Below w0.heap.size w0 wr∧Keeps w wr) (fun _ i _=>l.length-(intOf i).toNat)
 case atStart=>exact⟨0,Nat.zero_le _,rfl,by simpa using ho1,hb1,hk1⟩
 case round =>
  clear ho1 hb1 hk1 hbl hz;obtain⟨k,hk,rfl,hown,hbl,hkp⟩:=hrel;have hz:=hbl.size
  by_cases hlt:k<l.length
  ·obtain⟨b0,o0,d,rfl,q0,hd⟩:=Hel.out k hlt;have c0:=Zaa hbl _ _ q0;obtain⟨dA,dc,rfl,_⟩:=id hd;have Hd:=Lib.hid (hd.mono (Zaa hbl));obtain⟨hn,hnl⟩:=Zpd l hlt;have Hn:=Lib.hid hn;clear hd q0 hn;generalize (l.take k).flatten=Z at hown Hn hnl;generalize l[k]=p at Hd Hn hnl c0
   go_wp2_with (at_builtin;go_loud (refine Za5 (n:=140737488355328) (W:=w0) (ys:=p) Za9 Zb8 _ _ rfl rfl rfl hown hbl hz rfl Hd.out (by decide) (by simp;omega) (by simp;omega) ?_))
   intro v2 w2 ho2 hb2 hg2;have hk2:=hkp.trans (Zat hown hg2);clear hg2 hown;go_wp2;go_roundw
   case rel=>exact⟨k+1,by omega,by go_num,by rw[Hn.out];simpa using ho2,hb2,hk2⟩
   case measure=>simp[intOf];omega
  ·have hkl:k=l.length:=by omega
   subst hkl;rw[List.take_length]at hown;have hfin:OwnB wr w0.heap.size u0 (xs++Db):=by rw[hD.out];rw[←hY.out,List.append_assoc]at hown;exact hown
   go_wp2;go_ret;exact⟨_,rfl,hbl,hkp,hfin⟩
end Go.Proofs.YtinibgklgehdpaaGreatDoor
