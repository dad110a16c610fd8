/- A part of what the last text stands on. -/
import Derived.WalkKit
import Derived.ProofKit
import Derived.OpenShut
import Derived.IntWalk
import Derived.BigQuiet
import Derived.Deep.QuietTactic
import Derived.Outline
import Derived.Lib.QuietBelow
import Derived.Lib.Hide
import Derived.Deep.RegionHeld3
import Derived.Laws.OwnMore
import Derived.SizedLaws
import Derived.Deep.Slices
import Derived.Test.YtbcpbnfojfiekaaGreatDoorRows
namespace Go.Proofs.YtbcpbnfojfiekaaGreatDoor
namespace Qa
end Qa
namespace Qb
end Qb
namespace Qc
end Qc
open Go.ChangeShapes Go.WideShapes Go.ChangeAt Go.RowKit Go.Proofs.Tryz Qa Qb Qc
set_option linter.all false
set_option maxHeartbeats 20000000
set_option maxRecDepth 100000
variable{P:Program}{w w' W wr:World}{a:Act}{o:Oper}{ops:Array Oper}{rest:List Oper}{Q:Exit→Act→World→Prop}{K:Act→World→Prop}{v:Value}{cur cs:Array Value}{A:Option Addr}{e t te:TypeId}{k i g off sz bs b c:Nat}{x y:Operand}{α:Type}{xs:List α}{enc:α→Value}
theorem Zao{a b:Bool}(h:a=b):Ending.returned (.bool a)=.returned (.bool b):=by rw[h]
theorem Zak{k:IntKind}{a b:Int}(h:a=b):Ending.returned (.int k a)=.returned (.int k b):=by rw[h]
theorem bcell{w1:World}(a:Below W.heap.size W w1):(∀b o,b<W.heap.size→w1.cell? ⟨b,o,none⟩=W.cell? ⟨b,o,none⟩)∧(∀b o,b<W.heap.size→w1.frozen? ⟨b,o,none⟩=W.frozen? ⟨b,o,none⟩) :=
 ⟨fun b o h=>a.cell (p:=⟨b,o,none⟩) h,fun b o h=>a.frozen (p:=⟨b,o,none⟩) h⟩
theorem Zbs{o n:Nat}:(⟨b,o,none⟩:Addr).add n=⟨b,o+n,none⟩:=by
 unfold Addr.add;split<;>simp_all
theorem Zhf{a:Addr}(h:w.cell? a=some v)(o:Obj):(w.alloc o).cell? a=some v:=by
 rw[World.cell?_alloc_lt _ _ _ (World.block_lt_of_cell? w a h)];exact h
theorem Zad(w:World):Below w.heap.size w w.drew:=(Below.refl _ _).drew
theorem Zac(w:World)(o:Obj):Below w.heap.size w (w.alloc o):=(Below.refl _ _).alloc (Nat.le_refl _) _
abbrev View:=Addr→Option Value
def VLe(h h':View):Prop:=∀a v,h a=some v→h' a=some v
theorem VLe.refl(h:View):VLe h h:=fun _ _ e=>e
theorem VLe.trans{a b c:View}(h:VLe a b)(k:VLe b c):VLe a c:=fun x v e=>k x v (h x v e)
def View.but(h:View)(g:Option Nat):View:=fun a=>if some a.block=g then none else h a
theorem View.but_le(h:View)(g:Option Nat):VLe (h.but g) h:=fun a v e=>by
 unfold View.but at e
 split at e
 ·cases e
 ·exact e
theorem Zaa(h:Below w.heap.size w w'):VLe w.cell? w'.cell?:=fun a v e=>by
 rw[h.cell (World.block_lt_of_cell? w a e)];exact e
theorem Zrc{g:Option Nat}(c:w.grownBy w' g):VLe (View.but w.cell? g) (View.but w'.cell? g):=fun a v e=>by
 unfold View.but at e⊢
 split at e
 ·cases e
 ·rename_i b
  rw[if_neg b]
  exact c.cell e b
def RVec(enc:α→Value)(bs:Nat)(h:View)(v:Value)(xs:List α):Prop :=
 ∃A c,v=.slice A xs.length c∧xs.length≤c∧c≤maxLen∧xs.length*bs≤140737488355328∧(A=none→c=0)∧(0<xs.length→∃b o,A=some ⟨b,o,none⟩∧∀i (hi:i<xs.length),h ⟨b,o+i,none⟩=some (enc xs[i]))
def RSl(sz:Nat)(R:View→List Value→α→Prop)(bs:Nat)(h:View)(v:Value)(xs:List α):Prop :=
 ∃A c,v=.slice A xs.length c∧xs.length≤c∧c≤maxLen∧xs.length*bs≤140737488355328∧(A=none→c=0)∧(0<xs.length→∃b o,A=some ⟨b,o,none⟩∧∀i (hi:i<xs.length),∃cs,cs.length=sz∧(∀j,j<sz→h ⟨b,o+i*sz+j,none⟩=cs[j]?)∧R h cs xs[i])
theorem RVec.mono{h f:View}(m:RVec enc bs h v xs)(d:VLe h f):RVec enc bs f v xs:=by
 obtain⟨A,c,e,g,k,a,hn,j⟩:=m;refine⟨A,c,e,g,k,a,hn,fun hp=>?_⟩;obtain⟨b,o,ea,l⟩:=j hp;exact⟨b,o,ea,fun i hi=>d _ _ (l i hi)⟩
theorem RSl.mono{R:View→List Value→α→Prop}(m:∀h f cs x,R h cs x→VLe h f→R f cs x){h f:View}(u:RSl sz R bs h v xs)(d:VLe h f):RSl sz R bs f v xs:=by
 obtain⟨A,c,e,n,s,g,hn,q⟩:=u;refine⟨A,c,e,n,s,g,hn,fun hp=>?_⟩;obtain⟨b,o,ea,t⟩:=q hp;refine⟨b,o,ea,fun i hi=>?_⟩;obtain⟨cs,r,a,l⟩:=t i hi;refine⟨cs,r,fun j p=>?_,m _ _ _ _ l d⟩;have k:=a j p;rw[List.getElem?_eq_getElem (by omega)]at k⊢;exact d _ _ k
def encB(b:UInt8):Value:=.int .u8 b.toNat
abbrev Zan:=RVec encB 1
theorem Zar{n:Nat}(o:Obj)(h:n≤w.heap.size):n≤(w.alloc o).heap.size:=Nat.le_trans h (by simp)
theorem Zzu{n:Nat}(h:n≤reachBytes):n≤140737488355328:=Nat.le_trans h (by decide)
theorem Zbw{n:Nat}(h:n≤140737488355328):n≤maxLen:=Nat.le_trans h (by decide)
theorem Zc3(w:World)(base:Nat)(t ty e:TypeId)(i:TypeInfo)(z:Value)(size bytes:Nat)(ht:P.underlying t=some (.slice e))(hi:P.info? e=some i)(x:i.zero=some z)(d:i.size=size)(p:i.bytes=bytes)(k:z.cells.size=size)(o:0<size)(v:Value)(n:Nat)(xs:List Value)(a:w.ownsRow base e size v n xs)(A:Option Addr)(m c:Nat)(news:List Value)(q:news.length=m*size)(h:A=none→m=0∧c=0)(f:∀ad,A=some ad→∀j u,news[j]?=some u→w.cell? (ad.add j)=some u)(r:∀u∈news,u.oneCell'=true)(l:n+m≤maxLen)(b:(n+m)*bytes≤140737488355328)(g:base≤w.heap.size) :
 ∃v' w',(Builtin.append_ #[t,t] ty #[v,.slice A m c]).run P w=.ok v' w'∧w'.ownsRow base e size v' (n+m) (xs++news)∧w.grownBy w' v.ownBlock:=by
 cases A with
 |none =>
  obtain⟨rfl,rfl⟩:=h rfl;have hn:news=[]:=List.eq_nil_of_length_eq_zero (by simpa using q);subst hn;refine⟨v,w,run_append_owned_none (P:=P) w base t ty e i size ht hi v n xs a,by simpa using a,⟨rfl,rfl,rfl,Nat.le_refl _,fun _ _ _=>rfl⟩⟩
 |some ad =>
  obtain⟨v',w',B,y,s,_⟩:=run_append_own (P:=P) w base t ty e i z size bytes ht hi x d p k o v n xs a ad m c news q (f ad rfl) r l b g;exact⟨v',w',B,y,s⟩
theorem Zf1(s x:Operand)(t:TypeId)(y:o.op=.call {callee:=.builtin .append,args:=#[s,x],argTypes:=#[t,t] })(base:Nat)(e:TypeId)(i:TypeInfo)(z:Value)(size bytes:Nat)(ht:P.underlying t=some (.slice e))(hi:P.info? e=some i)(B:i.zero=some z)(d:i.size=size)(r:i.bytes=bytes)(p:z.cells.size=size)(l:0<size)(v:Value)(n:Nat)(xs:List Value)(I:a.eval s=v)(k:w.ownsRow base e size v n xs)(A:Option Addr)(m c:Nat)(news:List Value)(D:a.eval x=.slice A m c)(H:news.length=m*size)(F:A=none→m=0∧c=0)(f:∀ad,A=some ad→∀j u,news[j]?=some u→w.cell? (ad.add j)=some u)(E:∀u∈news,u.oneCell'=true)(q:n+m≤maxLen)(b:(n+m)*bytes≤140737488355328)(g:base≤w.heap.size)(h:∀v' w',w'.ownsRow base e size v' (n+m) (xs++news)→w.grownBy w' v.ownBlock→K (a.put o.dst v') w'):o.wp P a w K Q:=by
 obtain⟨v',w',J,C,G⟩:=Zc3 (P:=P) w base t o.type e i z size bytes ht hi B d r p l v n xs k A m c news H F f E q b g;unfold Oper.wp execOp;simp[y,resolve,invoke,builtin,I,D,J,Result.andThen,Oper.upon];exact h _ _ C G
theorem Zcx(y:o.guard=none)(s x:Operand)(t:TypeId)(B:o.op=.call {callee:=.builtin .append,args:=#[s,x],argTypes:=#[t,t] })(base:Nat)(e:TypeId)(i:TypeInfo)(z:Value)(size bytes:Nat)(ht:P.underlying t=some (.slice e))(hi:P.info? e=some i)(C:i.zero=some z)(d:i.size=size)(r:i.bytes=bytes)(p:z.cells.size=size)(l:0<size)(v:Value)(n:Nat)(xs:List Value)(K:a.eval s=v)(k:w.ownsRow base e size v n xs)(A:Option Addr)(m c:Nat)(news:List Value)(E:a.eval x=.slice A m c)(J:news.length=m*size)(G:A=none→m=0∧c=0)(f:∀ad,A=some ad→∀j u,news[j]?=some u→w.cell? (ad.add j)=some u)(F:∀u∈news,u.oneCell'=true)(q:n+m≤maxLen)(b:(n+m)*bytes≤140737488355328)(g:base≤w.heap.size)(h:∀v' w',w'.ownsRow base e size v' (n+m) (xs++news)→w.grownBy w' v.ownBlock→wpList P ops Q rest (a.put o.dst v') w'):wpList P ops Q (o::rest) a w :=
 wpList_plain y fun _ H=>Zf1 s x t B base e i z size bytes ht hi C d r p l v n xs K k A m c news E J G f F q b g fun v' w' D I=>H _ _ (h v' w' D I)
theorem Zi4(C:o.guard=none)(s x:Operand)(t:TypeId)(q:o.op=.call {callee:=.builtin .append,args:=#[s,x],argTypes:=#[t,t] })(base:Nat)(e:TypeId)(i:TypeInfo)(z:Value)(size bytes:Nat)(ht:P.underlying t=some (.slice e))(hi:P.info? e=some i)(E:i.zero=some z)(l:i.size=size)(B:i.bytes=bytes)(w:z.cells.size=size)(r:0<size){n:Nat}{xs:List Value}(I:a.eval s=v)(f:wr.ownsRow base e size v n xs)(y:Below base W wr)(b:base≤wr.heap.size)(cs:List Value)(F:a.eval x=.slice (some ⟨wr.heap.size,0,none⟩) 1 1)(H:cs.length=size)(G:∀u∈cs,u.oneCell'=true)(c:(n+1)*bytes≤140737488355328)(A:n+1≤140737488355328)(h:∀v' w',w'.ownsRow base e size v' (n+1) (xs++cs)→Below base W w'→wr.grownBy w' v.ownBlock→wpList P ops Q rest (a.put o.dst v') w'):wpList P ops Q (o::rest) a (wr.alloc (.cells cs.toArray e)):=by
 refine Zcx C s x t q base e i z size bytes ht hi E l B w r v n xs I (f.alloc _) (some ⟨wr.heap.size,0,none⟩) 1 1 cs F (by rw[H,Nat.one_mul]) (fun h=>by cases h) (fun ad m j u hu=>?_) G (Zbw A) c (Zar _ b) (fun v' w' q d=>?_)
 ·injection m with m;subst m;rw[Zbs,Nat.zero_add,cell_of_row _ _ j cs.toArray e (0,0) (heap_alloc_new wr _)];simpa using hu
 ·refine h v' w' q ((y.alloc b _).grown d (Zar _ b) (fun g d=>(f.lt g d).1)) ?_;have g1:=World.grownBy_alloc wr (.cells cs.toArray e) v.ownBlock;exact⟨d.os.trans g1.os,d.tape.trans g1.tape,d.output.trans g1.output,Nat.le_trans g1.size d.size,fun k D p=>(d.block k (Nat.lt_of_lt_of_le D g1.size) p).trans (g1.block k D p)⟩
structure OwnVec {α:Type} (enc:α→Value) (e:TypeId) (w:World) (base:Nat) (v:Value) (xs:List α):Prop where
 own:w.ownsRow base e 1 v xs.length (xs.map enc)
theorem OwnVec.nil(enc:α→Value)(e:TypeId)(w:World)(base:Nat):OwnVec enc e w base (.slice none 0 0) []:=⟨World.ownsRow_nil _ _ _ _⟩
theorem OwnVec.kept{base:Nat}(h:OwnVec enc e w base v xs)(a:Below w.heap.size w w'):OwnVec enc e w' base v xs :=
 ⟨h.own.kept (row:=none) ⟨a.os,a.tape,a.output,a.size,fun k b _=>a.block k b⟩ (by cases v.ownBlock<;>simp)⟩
theorem OwnVec.reads{base:Nat}(h:OwnVec enc e w base v xs)(d:xs.length*bs≤140737488355328):RVec enc bs w.cell? v xs:=by
 obtain⟨h⟩:=h
 rcases id h.2 with ⟨rfl,a⟩|⟨g,cap,cur,rfl,k,j,b,c,f,l⟩
 ·have:xs=[]:=List.eq_nil_of_length_eq_zero a;subst this;exact⟨none,0,rfl,Nat.le_refl _,Nat.zero_le _,by simp,fun _=>rfl,fun h=>by simp at h⟩
 ·refine⟨_,cap,rfl,b,c,d,(fun h=>by cases h),fun hp=>⟨g,0,rfl,fun i hi=>?_⟩⟩;have:=h.cells (g:=g) rfl i (enc xs[i]) (by simp[hi]);rw[Zbs]at this;exact this
theorem RVec.src{n:Nat}(h:RVec enc bs w.cell? (.slice A n c) xs) :
 n=xs.length∧n≤maxLen∧n*bs≤140737488355328∧(xs.map enc).length=n*1∧(A=none→n=0∧c=0)∧∀ad,A=some ad→∀j u,(xs.map enc)[j]?=some u→w.cell? (ad.add j)=some u:=by
 obtain⟨A',c',e,l,m,i,g,f⟩:=h;injection e with e1 e2 e3;subst e1 e2 e3;refine⟨rfl,by omega,i,by simp,fun a=>⟨?_,g a⟩,fun ad a j u hu=>?_⟩
 ·rcases Nat.eq_zero_or_pos xs.length with h|h
  ·exact h
  ·obtain⟨b,o,ea,_⟩:=f h;rw[a]at ea;cases ea
 ·have d:j<xs.length:=by
   have:=(List.getElem?_eq_some_iff.1 hu).1;simpa using this
  obtain⟨b,o,ea,k⟩:=f (by omega);rw[a]at ea;injection ea with ea;subst ea;rw[Zbs,k j d];simpa[d]using hu
def Zkm(P:Program)(t e:TypeId)(bytes:Nat):Prop:=P.underlying t=some (.slice e)∧∃i z,P.info? e=some i∧i.zero=some z∧i.size=1∧i.bytes=bytes∧z.cells.size=1
theorem elem1{bytes:Nat}{z:Value}(ht:P.underlying t=some (.slice e))(h:(P.info? e).map (fun i=>(i.zero,i.size,i.bytes))=some (some z,1,bytes))(d:z.cells.size=1):Zkm P t e bytes:=by
 obtain⟨i0,hi,b,c,a⟩:=info_parts h;exact⟨ht,i0,z,hi,b,c,a,d⟩
theorem Zdj{bytes base n:Nat}(x:α)(C:Zkm P t e bytes)(w:∀x:α,(enc x).oneCell'=true)(s y:Operand)(p:o.guard=none)(j:o.op=.call {callee:=.builtin .append,args:=#[s,y],argTypes:=#[t,t] })(D:a.eval s=v)(c:OwnVec enc e wr base v xs)(d:Below base W wr)(b:base≤wr.heap.size)(r:a.eval y=.slice (some ⟨wr.heap.size,0,none⟩) 1 1)(q:n≤140737488355328)(hn:(xs.length+1)*bytes≤n)(m:xs.length+1≤n)(h:∀v' w',OwnVec enc e w' base v' (xs++[x])→Below base W w'→wr.grownBy w' v.ownBlock→wpList P ops Q rest (a.put o.dst v') w'):wpList P ops Q (o::rest) a (wr.alloc (.cells #[enc x] e)):=by
 obtain⟨ht,i,z,hi,f,l,k,g⟩:=C;refine Zi4 p s y t j base e i z 1 bytes ht hi f l k g (by decide) D c.own d b [enc x] r rfl (fun u hu=>by rw[List.mem_singleton.1 hu];exact w x) (Nat.le_trans hn q) (Nat.le_trans m q) (fun v' w' j A B=>h v' w' ⟨?_⟩ A B);simpa using j
theorem Za6{bytes base n:Nat}{vy:Value}{ys:List α}(G:Zkm P t e bytes)(F:∀x:α,(enc x).oneCell'=true)(s y:Operand)(q:o.guard=none)(k:o.op=.call {callee:=.builtin .append,args:=#[s,y],argTypes:=#[t,t] })(J:a.eval s=v)(d:OwnVec enc e wr base v xs)(m:Below base W wr)(b:base≤wr.heap.size)(E:a.eval y=vy)(C:RVec enc bytes wr.cell? vy ys)(D:n≤140737488355328)(hn:(xs.length+ys.length)*bytes≤n)(B:xs.length+ys.length≤n)(h:∀v' w',OwnVec enc e w' base v' (xs++ys)→Below base W w'→wr.grownBy w' v.ownBlock→wpList P ops Q rest (a.put o.dst v') w'):wpList P ops Q (o::rest) a wr:=by
 obtain⟨ht,i,z,hi,r,l,w,p⟩:=G;obtain⟨A,c,rfl,_⟩:=id C;obtain⟨_,_,_,I,H,f⟩:=C.src;refine Zcx q s y t k base e i z 1 bytes ht hi r l w p (by decide) v xs.length _ J d.own A ys.length c (ys.map enc) E I H f (fun u hu=>by obtain⟨x,_,rfl⟩:=List.mem_map.1 hu;exact F x) (Zbw (Nat.le_trans B D)) (Nat.le_trans hn D) b (fun v' w' k j=>h v' w' ⟨?_⟩ (m.grown j b (fun g j=>(d.own.lt g j).1)) j);simpa using k
theorem RVec.nil(enc:α→Value)(bs:Nat)(h:View):RVec enc bs h (.slice none 0 0) []:=⟨none,0,rfl,Nat.le_refl _,Nat.zero_le _,by simp,fun _=>rfl,fun h=>by simp at h⟩
theorem OwnVec.form(h:OwnVec enc e w b v xs):∃A c,v=.slice A xs.length c:=by
 obtain⟨d,a⟩:=h.own
 rcases a with ⟨rfl,a⟩|⟨g,cap,cur,rfl,_⟩
 ·exact⟨none,0,by rw[a]⟩
 ·exact⟨_,_,rfl⟩
theorem OwnVec.base{b':Nat}(h:OwnVec enc e w b v xs)(j:b'≤b):OwnVec enc e w b' v xs:=by
 obtain⟨c,a⟩:=h.own;refine⟨c,?_⟩
 rcases a with a|⟨g,cap,cur,i,d,f⟩
 ·exact .inl a
 ·exact .inr ⟨g,cap,cur,i,Nat.le_trans j d,f⟩
theorem OwnVec.grown(h:OwnVec enc e w b v xs)(c:w.grownBy w' (some g))(a:g<b):OwnVec enc e w' b v xs :=
 ⟨h.own.kept c (.inr fun e=>by have:=(h.own.lt g e).1;omega)⟩
theorem OwnVec.alloc(h:OwnVec enc e w b v xs)(o:Obj):OwnVec enc e (w.alloc o) b v xs:=h.kept ((Below.refl _ _).alloc (Nat.le_refl _) _)
theorem OwnVec.setCell(h:OwnVec enc e w b v xs){p:Addr}(hp:p.block<b)(u:Value):OwnVec enc e (w.setCell p u) b v xs :=
 ⟨ownsRow_setCell_below h.own hp u⟩
theorem Zds{p:Nat→Bool}{n:Nat}(h:∀j,j<n→p j=false):(List.range n).any p=false:=by
 rw[List.any_eq_false];intro x a;simp[h x (List.mem_range.1 a)]
theorem Zb8{p:Nat→Bool}{n:Nat}(a:k<n)(h:p k=true):(List.range n).any p=true:=by
 rw[List.any_eq_true];exact⟨k,List.mem_range.2 a,h⟩
theorem upto_succ{p:Nat→Bool}(h:∀j,j<k→p j=false)(b:p k=false):∀j,j<k+1→p j=false:=fun j c=>by
 rcases Nat.lt_or_ge j k with a|a
 ·exact h j a
 ·have:j=k:=by omega
  subst this;exact b
theorem Zgh{l:List α}{p:α→Bool}(h:∀j (b:j<l.length),p l[j]=false):l.any p=false:=by
 rw[List.any_eq_false];intro x a;obtain⟨i,hi,rfl⟩:=List.getElem_of_mem a;simp[h i hi]
theorem Zg1{l:List α}{p:α→Bool}(a:k<l.length)(h:p l[k]=true):l.any p=true:=by
 rw[List.any_eq_true];exact⟨l[k],List.getElem_mem a,h⟩
theorem RVec.take{h:View}{n:Nat}(p:RVec enc bs h (.slice A n c) xs)(d:k≤xs.length):RVec enc bs h (.slice A k c) (xs.take k):=by
 obtain⟨A',c',e,q,m,j,f,g⟩:=p;injection e with e1 e2 e3;subst e1 e2 e3;have a:(xs.take k).length=k:=by simp;omega
 refine⟨A,c,by rw[a],by omega,m,?_,f,fun hp=>?_⟩
 ·rw[a];exact Nat.le_trans (Nat.mul_le_mul_right _ d) j
 ·obtain⟨b,o,ea,l⟩:=g (by omega);refine⟨b,o,ea,fun i hi=>?_⟩;rw[a]at hi;rw[l i (by omega),List.getElem_take]
theorem Zic{H:Type}{enc:TypeId×Value→H}{P:Program}(e:laidOutB P=true){W W':World}(g:Below W.heap.size W W'){sp:Nat→Bool} :
 ∀(ts:List TypeId) (vs:List Value) (ds:List (DataW H)) (ps:List MemPlace),(∀t∈ts,P.readableRec t=true∧t<P.types.size) →
  (∀x∈ps,x.block<W.heap.size)→(∀x∈ps,sp x.block=true)→DataW.TrodAll enc P W 0 (fun _=>true) true ts vs ds ps→DataW.TrodAll enc P W' 0 sp true ts vs ds ps
 |[],[],[],ps,_,_,_,h=>h
 |t::ts,v::vs,d::ds,ps,c,b,f,h=>by
  obtain⟨p,q,i,j,rfl⟩:=h
  refine⟨p,q,WideElems.Trod_stays e (c t (by simp)).1 (c t (by simp)).2 i (fun x a=>g.same (b x (by simp[a]))) (fun x a=>f x (by simp[a])),?_,rfl⟩
  exact Zic e g ts vs ds q (fun t ht=>c t (by simp[ht])) (fun x a=>b x (by simp[a])) (fun x a=>f x (by simp[a])) j
 |[],[],_::_,_,_,_,_,h=>h.elim
 |[],_::_,_,_,_,_,_,h=>h.elim
 |_::_,[],_,_,_,_,_,h=>h.elim
 |_::_,_::_,[],_,_,_,_,h=>h.elim
theorem Zxo{H:Type}{enc:TypeId×Value→H}(z:laidOutB P=true){f:Func}{s:ChangeSpec}{args:Array Value}{ds gs:List (DataW H)}{before:List MemPlace}{b:TypeId}(l:f.resultTypes=#[b])(d:P.underlying b=some .bool)(a:s.vars=[])(c:∀t∈f.params.toList,P.readableRec t=true∧t<P.types.size)(j:s.fn H (ds++gs)={ results:=[.lit (.bool true)],args:=ds })(r:DataW.Whole enc P f.params.toList s.vars false W args.toList ds gs before){e:Ending}{W':World}(w:e=.returned (.bool true))(u:Below W.heap.size W W') :
 ∃v,e=.returned v∧s.post enc P f false true false false W args v W':=by
 have i:∀x∈before,x.block<W.heap.size:=fun x m=>by simpa using r.lt x m
 have k:=r
 obtain⟨p,q,A,n,rfl,o,B⟩:=r
 have y:gs=[]∧q=[]:=by
  rw[a]at n
  cases gs with
  |nil=>exact⟨rfl,n⟩
  |cons g gs=>exact n.elim
 obtain⟨rfl,rfl⟩:=y
 simp only[List.append_nil]at k i o
 refine⟨_,w,ds,[],p,[],p,[],k,?_,?_,?_,?_,fun h=>by cases h⟩
 ·rw[l,j]
  exact trodAll_mk1 (shut_bool d true)
 ·rw[j]
  exact Zic z u _ _ _ _ c i (fun x m=>by simpa using i x m) A
 ·rw[j,a]
  rfl
 ·exact u.frame _
def Zgi(P:Program)(t:TypeId)(R:View→List Value→α→Prop):Prop :=
 ∀(H:Type) (enc:TypeId×Value→H) (w:World) (fuel:Nat) (cs:List Value) (x:DataW H×List MemPlace),
  DataW.trod enc P w 0 (fun _=>true) true fuel t cs=some x→(∀n∈x.1.weights P t,n≤reachBytes)→∃a:α,R w.cell? cs a
theorem Zqb{k:IntKind}(ht:P.underlying t=some (.int k)):Zgi P t (fun _ cs (n:Int)=>cs=[.int k n]∧(Lit.int k n).wf=true):=by
 intro H enc w fuel cs x h _;cases fuel with
 |zero=>simp[DataW.trod]at h
 |succ n =>
  unfold DataW.trod at h;rw[ht]at h
  split at h<;>simp_all
theorem Zw8(ht:P.underlying t=some .string):Zgi P t (fun _ cs (s:ByteArray)=>cs=[.string s]∧s.size≤reachBytes):=by
 intro H enc w fuel cs x h a;cases fuel with
 |zero=>simp[DataW.trod]at h
 |succ n =>
  unfold DataW.trod at h;rw[ht]at h
  split at h<;>simp_all
  obtain⟨b,rfl⟩:=h;have:=a _ (by simp only[DataW.weights];exact List.mem_singleton.2 rfl);simpa using this
theorem Zm1{H:Type}{d:DataW H}{l:List (DataW H)}(hd:d∈l):∀n∈d.weights P e,n∈DataW.weightsAll P e l:=by
 induction l with
 |nil=>cases hd
 |cons x r ih =>
  intro n hn;simp only[DataW.weightsAll,List.mem_append]
  rcases List.mem_cons.1 hd with rfl|h
  ·exact .inl hn
  ·exact .inr (ih h n hn)
theorem Zq6{a:Addr}(h:w.cell? a=some v):a=⟨a.block,a.off,none⟩:=by
 obtain⟨b,o,s⟩:=a;cases s with
 |none=>rfl
 |some s =>
  simp[World.cell?]at h
  split at h<;>simp at h
theorem Zmd{α:Type}{p:Nat→α→Prop}:∀n,(∀i,i<n→∃a,p i a)→∃l:List α,l.length=n∧∀i (hi:i<l.length),p i l[i]
 |0,_=>⟨[],rfl,fun i hi=>by simp at hi⟩
 |n+1,h=>by
  obtain⟨l,c,hp⟩:=Zmd n (fun i hi=>h i (by omega))
  obtain⟨a,d⟩:=h n (by omega)
  refine⟨l++[a],by simp[c],fun i hi=>?_⟩
  by_cases b:i<l.length
  ·rw[List.getElem_append_left b];exact hp i b
  ·have:i=n:=by simp at hi;omega
   subst this
   rw[List.getElem_append_right (by omega)]
   simpa using d
theorem Zz4{R:View→List Value→α→Prop}(ht:P.underlying t=some (.slice e))(I:P.cellsOf e=sz)(r:0<sz)(z:P.bytesOf e=bs)(G:Zgi P e R) :
 Zgi P t (fun h cs (xs:List α)=>∃v,cs=[v]∧RSl sz R bs h v xs):=by
 intro H enc w fuel cs x h C
 rcases Deep.open_slice ht h with ⟨rfl,rfl⟩|⟨a,len,cap,m,n,D,Pl,rfl,O,E,L,o,J,hi⟩
 ·exact⟨[],_,rfl,none,0,rfl,Nat.le_refl _,Nat.zero_le _,by simp,fun _=>rfl,fun h=>by simp at h⟩
 ·simp only[if_true]at o;subst o;subst J;have g:((List.range len).map D).length+((List.range (m-len)).map fun j=>D (len+j)).length=m:=by simp;omega
  have b:m*bs≤140737488355328:=by
   have:=C _ (by simp only[DataW.weights,ht];exact List.mem_cons_self);rw[g,z]at this;unfold reachBytes at this;omega
  have A:∀i,i<len→∃a':α,∃cs',w.cells? 0 (a.add (i*sz)) sz=some cs'∧R w.cell? cs' a':=by
   intro i B;obtain⟨cs',q,s⟩:=hi i (by omega);rw[I]at q
   obtain⟨a',u⟩:=G H enc w n cs' _ s (fun k M=>C k (by
    simp only[DataW.weights,ht];refine List.mem_cons_of_mem _ (List.mem_append_left _ (Zm1 (d:=D i) ?_ k M))
    exact List.mem_map.2 ⟨i,List.mem_range.2 B,rfl⟩))
   exact⟨a',cs',q,u⟩
  obtain⟨xs,f,hp⟩:=Zmd len A;subst f;refine⟨xs,_,rfl,some a,m,rfl,E,L,Nat.le_trans (Nat.mul_le_mul_right _ E) b,(fun h=>by cases h),fun l=>?_⟩;obtain⟨cs0,F,_⟩:=hp 0 l
  have p:a=⟨a.block,a.off,none⟩:=by
   obtain⟨_,N,c⟩:=World.cells?_some F;have:=c 0 r;rw[List.getElem?_eq_getElem (by omega)]at this;simp[Addr.add]at this;exact Zq6 this
  refine⟨a.block,a.off,by rw[←p],fun i hi=>?_⟩;obtain⟨cs',q,s⟩:=hp i hi;obtain⟨_,y,c⟩:=World.cells?_some q;refine⟨cs',y,fun j K=>?_,s⟩;have:=c j K;rw[p,Zbs,Zbs]at this;exact this
theorem Zqc{fs:Array Field}(ht:P.underlying t=some (.struct fs)){H:Type}{enc:TypeId×Value→H}{fuel:Nat}{cs:List Value}{x:DataW H×List MemPlace}(h:DataW.trod enc P w 0 (fun _=>true) true fuel t cs=some x)(r:∀n∈x.1.weights P t,n≤reachBytes) :
 cs.length=P.cellsOf t∧∀(i ty off sz:Nat) {α:Type} {R:View→List Value→α→Prop},((fs[i]?).map fun f=>(f.type,f.offset))=some (ty,off)→P.cellsOf ty=sz→Zgi P ty R→∃a,R w.cell? ((cs.drop off).take sz) a:=by
 obtain⟨xs,n,_,rfl,c,g,s⟩:=DataW.trod_struct ht h;refine⟨c,fun i ty off sz α R e l q=>?_⟩;obtain⟨f,b,m⟩:=Option.map_eq_some_iff.1 e;injection m with e1 e2;subst e1 e2 l;have hi:i<xs.length:=by rw[g];exact(Array.getElem?_eq_some_iff.1 b).1
 have o:=s i f b;rw[List.getElem?_eq_getElem hi]at o;refine q H enc w n _ _ o (fun k p=>r k ?_);simp only[DataW.weights,ht];refine DataW.weights_mem_each (j:=i) (t:=f.type) (d:=xs[i].1) ?_ ?_ k p
 ·simp[b]
 ·simp[hi]
theorem Za(n:Nat):n≤n:=Nat.le_refl n
theorem Zb{p:Prop}(h:p):Hid p:=h
theorem Zf(n:Nat):0≤n:=Nat.zero_le n
theorem Zg{n m:Nat}(h:n≤m)(a:m≤k):n≤k:=Nat.le_trans h a
theorem Zm(B:Nat)(w:World):Below B w w:=Below.refl B w
theorem Zl{a b:List α}:(a++b).length=a.length+b.length:=List.length_append
theorem Zn{l:List α}(h:i<l.length):l.take (i+1)=l.take i++[l[i]]:=List.take_succ_eq_append_getElem h
theorem Zp{l:List α}(h:i<l.length):l[i]?=some l[i]:=List.getElem?_eq_getElem h
theorem Zu{a:α}{l:List α}:(a::l).length=l.length+1:=List.length_cons
theorem Zv{a b:α}(h:a∈[b]):a=b:=List.mem_singleton.1 h
def Blk(w:World)(g:Nat)(t:TypeId)(cs:Array Value):Prop:=w.heap[g]?=some (.cells cs t (0,0))
section
variable {w w':World} {g:Nat} {t:TypeId} {cs:Array Value}
theorem Blk.lt(h:Blk w g t cs):g<w.heap.size:=(Array.getElem?_eq_some_iff.1 h).1
theorem Blk.cell(h:Blk w g t cs)(i:Nat):w.cell? ⟨g,i,none⟩=cs[i]?:=cell_of_row w g i cs t (0,0) h
theorem Blk.frozen(h:Blk w g t cs)(i:Nat):w.frozen? ⟨g,i,none⟩=false:=by
 unfold Blk at h;simp[World.frozen?,h]
theorem Blk.new(w:World)(t:TypeId)(cs:Array Value):Blk (w.alloc (.cells cs t)) w.heap.size t cs:=heap_alloc_new w _
theorem Blk.alloc(h:Blk w g t cs)(o:Obj):Blk (w.alloc o) g t cs:=(Below.heap_alloc w o g h.lt).trans h
theorem Blk.drew(h:Blk w g t cs):Blk w.drew g t cs:=h
theorem Blk.below{B:Nat}(h:Blk w g t cs)(b:Below B w w')(a:g<B):Blk w' g t cs:=(b.block g a).trans h
theorem Blk.kept(h:Blk w g t cs)(a:Below w.heap.size w w'):Blk w' g t cs:=h.below a h.lt
theorem Blk.grown{row:Option Nat}(h:Blk w g t cs)(b:w.grownBy w' row)(a:some g≠row):Blk w' g t cs:=(b.block g h.lt a).trans h
end
theorem Zff(w:World)(r:Option Nat):w.grownBy w r:=⟨rfl,rfl,rfl,Za _,fun _ _ _=>rfl⟩
theorem Zbf(w:World)(r:Option Nat):w.grownBy w.drew r:=⟨rfl,rfl,rfl,Za _,fun _ _ _=>rfl⟩
theorem Zae{a b c:World}{r:Option Nat}(h:a.grownBy b r)(k:b.grownBy c r):a.grownBy c r :=
 ⟨k.os.trans h.os,k.tape.trans h.tape,k.output.trans h.output,Zg h.size k.size,fun i hi d=>(k.block i (Nat.lt_of_lt_of_le hi h.size) d).trans (h.block i hi d)⟩
theorem Zal{a b:World}(r:Option Nat)(h:Below a.heap.size a b):a.grownBy b r:=⟨h.os,h.tape,h.output,h.size,fun i hi _=>h.block i hi⟩
theorem Zab{a b:World}{B:Nat}{r:Option Nat}(h:Below B W a)(e:B≤a.heap.size)(d:a.grownBy b r)(c:∀k,r=some k→B≤k):Below B W b:=h.grown d e c
theorem Zbn(a:w.grownBy w' (some g)):VLe (View.but w.cell? (some g)) w'.cell?:=(Zrc a).trans (View.but_le _ _)
theorem RVec.below_but(b:RVec enc bs w.cell? v xs)(d:Below w.heap.size w W)(f:w.heap.size≤g):RVec enc bs (View.but W.cell? (some g)) v xs:=by
 refine b.mono fun a u hu=>?_
 have c:=World.block_lt_of_cell? w a hu;unfold View.but;rw[if_neg (by intro e;injection e with e;omega)];exact Zaa d _ _ hu
theorem Za8(w:World)(c1 c2:Array Value)(t1 t2:TypeId)(R:World→Prop)(h:∀W,Blk W w.heap.size t1 c1→Blk W (w.heap.size+1) t2 c2→W.heap.size=w.heap.size+2→Below w.heap.size w W→R W):R ((w.alloc (.cells c1 t1)).alloc (.cells c2 t2)):=by
 refine h _ ((Blk.new w t1 c1).alloc _) ?_ (by simp) (((Zm _ _).alloc (Za _) _).alloc (Zar _ (Za _)) _);have:=Blk.new (w.alloc (.cells c1 t1)) t2 c2;simpa using this
theorem Za9(w:World)(c1:Array Value)(t1:TypeId)(R:World→Prop)(h:∀W,Blk W w.heap.size t1 c1→W.heap.size=w.heap.size+1→Below w.heap.size w W→R W):R (w.alloc (.cells c1 t1)) :=
 h _ (Blk.new w t1 c1) (by simp) (Zac _ _)
theorem Zon{o n:Nat}(hi:(P.info? t).map (·.size)=some n)(hn:v.cells.size=n)(e:Blk w g te cur)(c:o+n≤cur.size)(d:∀u∈v.cells.toList,u.oneCell'=true) :
 (Instr.storeAt t (.pointer (some ⟨g,o,none⟩)) v).run P w=.ok () (w.setRow g (cur.toList.take o++v.cells.toList++cur.toList.drop (o+n)).toArray):=by
 obtain⟨i,a,rfl⟩:=Option.map_eq_some_iff.1 hi;have b:=run_storeCells_at P g o te v.cells.toList 0 cur w e (by rw[Array.length_toList];omega) d;simp only[Nat.add_zero,Array.length_toList,hn]at b;simp[Instr.storeAt,Instr.sureAddr,storeVar,sizeOf,typeInfo,a,hn,b]
theorem Zmk(b:Blk w g te cur)(new:Array Value):Blk (w.setRow g new) g te new∧w.grownBy (w.setRow g new) (some g) :=
 ⟨setRow_heap w g cur new te (0,0) b,rfl,rfl,rfl,by simp[World.setRow],fun k _ a=>setRow_other w g k new (fun e=>a (by rw[e]))⟩
theorem Zau{n:Nat}(f:o.op=.store t x y)(d:a.eval x=.pointer (some ⟨g,off,none⟩))(i:a.eval y=v)(hi:(P.info? t).map (·.size)=some n)(hn:v.cells.size=n)(c:Blk w g te cs)(b:off+n≤cs.size)(e:(v.cells.toList.all fun u=>u.oneCell')=true)(h:∀w',Blk w' g te (cs.toList.take off++(v.cells.toList++cs.toList.drop (off+n))).toArray→w.grownBy w' (some g)→K (a.put o.dst undef) w'):o.wp P a w K Q:=by
 have l:=Zon (P:=P) hi hn c b (fun u hu=>List.all_eq_true.1 e u hu)
 obtain⟨k,j⟩:=Zmk c (cs.toList.take off++(v.cells.toList++cs.toList.drop (off+n))).toArray
 unfold Oper.wp execOp
 simp[f,d,i,l,Result.andThen,Oper.upon]
 exact h _ k j
theorem Zc1{n:Nat}{new:Array Value}(i:o.op=.store t x y)(d:a.eval x=.pointer (some ⟨g,0,none⟩))(k:a.eval y=.agg new)(hi:(P.info? t).map (·.size)=some n)(hn:new.size=n)(l:Blk w g te cs)(b:cs.size=n)(f:(new.toList.all fun u=>u.oneCell')=true)(h:∀w',Blk w' g te new→w.grownBy w' (some g)→K (a.put o.dst undef) w'):o.wp P a w K Q:=by
 refine Zau i d k hi hn l (by omega) f (fun w' c j=>h w' ?_ j)
 have e:(cs.toList.take 0++((Value.agg new).cells.toList++cs.toList.drop (0+n))).toArray=new:=by
  rw[List.drop_of_length_le (by simp[b])]
  simp[Value.cells]
 rwa[e]at c
theorem Zde{o n:Nat}(a:(isAgg t).run P w=.ok true w)(hi:(P.info? t).map (·.size)=some n)(f:Blk w g te cur)(d:o+n≤cur.size) :
 (loadVar t ⟨g,o,none⟩).run P w=.ok (.agg ((cur.toList.drop o).take n).toArray) w:=by
 obtain⟨i,c,rfl⟩:=Option.map_eq_some_iff.1 hi;have e:((cur.toList.drop o).take i.size).length=i.size:=by simp;omega
 have:=run_loadCells_list (P:=P) w ⟨g,o,none⟩ ((cur.toList.drop o).take i.size) (fun j v b=>by
  rw[Zbs,f.cell];rw[List.getElem?_take]at b;split at b
  ·simpa using b
  ·cases b)
 rw[e]at this;simp[loadVar,a,sizeOf,typeInfo,c,this]
theorem Zay{fn:Func}{p:Tmp}{n:Nat}{tmps:Array Value}(h:fn.results=#[.cell p t])(hp:tmps.getD p undef=.pointer (some ⟨g,0,none⟩))(a:(isAgg t).run P w=.ok true w)(hi:(P.info? t).map (·.size)=some n)(c:Blk w g te cur)(hn:cur.size=n) :
 (results fn tmps).run P w=.ok (.agg cur) w:=by
 have:=Zde (P:=P) a hi c (o:=0) (by omega);rw[List.drop_zero,List.take_of_length_le (by simp[hn])]at this;simp only[results,h];have b:tmps[p]?.getD undef=.pointer (some ⟨g,0,none⟩):=by simpa using hp
 simp[Sem.run_bind,Result.andThen,b,asAddr,this]
theorem Zag{fn:Func}{p u:Tmp}{n:Nat}{tmps:Array Value}(h:fn.results=#[.cell p t,.tmp u])(hp:tmps.getD p undef=.pointer (some ⟨g,0,none⟩))(a:(isAgg t).run P w=.ok true w)(hi:(P.info? t).map (·.size)=some n)(c:Blk w g te cur)(hn:cur.size=n) :
 (results fn tmps).run P w=.ok (.tuple #[.agg cur,tmps.getD u undef]) w:=by
 have:=Zde (P:=P) a hi c (o:=0) (by omega);rw[List.drop_zero,List.take_of_length_le (by simp[hn])]at this;have b:tmps[p]?.getD undef=.pointer (some ⟨g,0,none⟩):=by simpa using hp
 simp only[results,h];simp[Sem.run_bind,Result.andThen,b,asAddr,this]
theorem Zh{new:Array Value}(n:Nat)(i:Blk w g te cs)(h:∀w',Blk w' g te new→w.grownBy w' (some g)→K (a.put o.dst undef) w')(e:o.op=.store t x y:=by exact rfl)(c:a.eval x=.pointer (some ⟨g,0,none⟩):=by exact rfl)(f:a.eval y=.agg new:=by exact rfl)(hi:(P.info? t).map (·.size)=some n:=by kernel_rfl)(hn:new.size=n:=by exact rfl)(b:cs.size=n:=by exact rfl)(d:(new.toList.all fun u=>u.oneCell')=true:=by exact rfl):o.wp P a w K Q:=Zc1 e c f hi hn i b d h
theorem Zo{c:Code}{c1:Array Value}{t1:TypeId}(h:∀W,Blk W w.heap.size t1 c1→W.heap.size=w.heap.size+1→Below w.heap.size w W→Code.wp P c Q a W):Code.wp P c Q a (w.alloc (.cells c1 t1)):=Za9 _ _ _ (fun W=>Code.wp P c Q a W) h
def inB(n lo hi:Int):Bool:=decide (lo≤n∧n≤hi)
theorem Za5(n:Int)(w:World):Calls prog 70 #[.int .i64 n] w fun e w'=>e=.returned (.bool (inB n 0 3))∧w=w':=by
 go_enter func70,ntmps70
 by_cases a:0≤n<;>by_cases c:n<4
 all_goals
  have b:inB n 0 3=decide (0≤n∧n≤3):=rfl;go_wp2;go_ret;exact⟨Zao (by simp[inB];try omega),rfl⟩
theorem count_any(n:Int)(w:World):Calls prog 75 #[.int .i64 n] w fun e w'=>e=.returned (.bool (inB n 1 1048576))∧w=w':=by
 go_enter func75,ntmps75
 by_cases a:1≤n<;>by_cases c:n≤1048576
 all_goals
  have b:inB n 1 1048576=decide (1≤n∧n≤1048576):=rfl;go_wp2;go_ret;exact⟨Zao (by simp[inB];try omega),rfl⟩
def Zgm(au ro:Int)(l:Nat):Int:=if !inB au 0 3|| !inB ro 1 1048576 then 2 else if l≠32 then 4 else 0
theorem Zem(au ro:Int)(s:Option Addr)(l c:Nat)(w:World):Calls prog 73 #[.agg #[.int .i64 au,.int .i64 ro,.slice s l c]] w fun e w'=>e=.returned (.int .i64 (Zgm au ro l))∧Below w.heap.size w w':=by
 have a:Zgm au ro l=if !inB au 0 3|| !inB ro 1 1048576 then 2 else if l≠32 then 4 else 0:=rfl
 by_cases d:l=32<;>cases ha:inB au 0 3<;>cases hb:inB ro 1 1048576
 all_goals
  try subst d
  try simp only[ha,hb]at a
  simp[*]at a;have b:=Zb a;clear a;go_enter func73,ntmps73;go_wp2_with (first|(go_at_call 70;refine(Za5 _ _).mono ?_;rintro e w' ⟨rfl,rfl⟩)|(go_at_call 75;refine(count_any _ _).mono ?_;rintro e w' ⟨rfl,rfl⟩));go_ret;exact⟨Zak b.out.symm,(Zm _ _).alloc (Za _) _⟩
def hN(k:Int):Bool:=k==1||k==2||k==3||k==7||k==8||k==9
def hP(k:Int):Bool:=inB k 4 7
def hT(k:Int):Bool:=k==1||k==9
def actF(k n p:Int)(s:ByteArray):Int :=
 if !inB k 1 10 then 3 else if hN k&& !inB n 0 3||hP k&& !inB p 0 400000 then 2 else if hT k&&decide (4000<s.size)then 1
 else if !hN k&&n != 0|| !hP k&&p != 0|| !hT k&& !(s.toList==[])then 4 else 0
theorem has_any(k:Int)(w:World):Calls prog 13 #[.int .i64 k] w fun e w'=>e=.returned (.tuple #[.bool (hN k),.bool (hP k),.bool (hT k)])∧w=w':=by
 cases h1:(k==1);cases h9:(k==9);cases h2:(k==2);cases h3:(k==3);cases h8:(k==8);cases h4:(k==4);cases h5:(k==5);cases h6:(k==6);cases h7:(k==7)
 all_goals
  have a:Hid (hN k=(k==1||k==2||k==3||k==7||k==8||k==9)∧hP k=inB k 4 7∧hT k=(k==1||k==9)):=⟨rfl,rfl,rfl⟩;go_enter func13,ntmps13;go_wp2;go_ret3;exact⟨by obtain⟨q1,q2,q3⟩:=a.out;rw[q1,q2,q3];simp_all[inB];try omega,rfl⟩
theorem Zfq(k n p:Int)(s:ByteArray)(w:World)(d:s.size≤140737488355328) :
 Calls prog 12 #[.agg #[.int .i64 k,.int .i64 n,.int .i64 p,.string s]] w fun e w'=>e=.returned (.int .i64 (actF k n p s))∧Below w.heap.size w w':=by
 have a:Hid (actF k n p s=if !inB k 1 10 then 3 else if hN k&& !inB n 0 3||hP k&& !inB p 0 400000 then 2 else if hT k&&decide (4000<s.size)then 1
  else if !hN k&&n != 0|| !hP k&&p != 0|| !hT k&& !(s.toList==[])then 4 else 0):=rfl
 by_cases f:k<1
 ·go_enter func12,ntmps12;go_wp2
  go_ret
  exact⟨Zak (by
   rw[a.out];have:inB k 1 10=false:=by(simp[inB];omega)
   simp[this]),(Zm _ _).alloc (Za _) _⟩
 by_cases c:10<k
 ·go_enter func12,ntmps12;go_wp2
  go_ret
  exact⟨Zak (by
   rw[a.out];have:inB k 1 10=false:=by(simp[inB];omega)
   simp[this]),(Zm _ _).alloc (Za _) _⟩
 have b:Hid (inB k 1 10=true):=by show _=_;simp[inB];omega
 cases h1:hN k<;>cases h2:hP k<;>cases h3:hT k
 all_goals
  go_enter func12,ntmps12;go_wp2_with (go_at_call 13;refine(has_any _ _).mono ?_;rintro e w' ⟨rfl,rfl⟩)
 all_goals
  go_ret;refine⟨Zak ?_,(Zm _ _).alloc (Za _) _⟩;rw[a.out,b.out];clear a b d
  first
   |(simp[*];done)
   |(simp[*,inB];done)
   |(simp[*,inB];omega)
end Go.Proofs.YtbcpbnfojfiekaaGreatDoor
