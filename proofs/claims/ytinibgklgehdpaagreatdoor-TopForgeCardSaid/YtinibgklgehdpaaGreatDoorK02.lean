/- A part of what the last text stands on. -/
import Derived.Test.YtinibgklgehdpaaGreatDoorK01
namespace Go.Proofs.YtinibgklgehdpaaGreatDoor
namespace Qa
end Qa
namespace Qb
end Qb
namespace Qc
end Qc
open Go.ChangeShapes Go.WideShapes Go.ChangeAt Go.RowKit Qa Qb Qc
set_option linter.all false
set_option maxHeartbeats 20000000
set_option maxRecDepth 100000
variable{P:Program}{w w' W wr:World}{o:Oper}{ops:Array Oper}{rest:List Oper}{Q:Exit→Act→World→Prop}{K:Act→World→Prop}{S:World→Prop}{v:Value}{cs:Array Value}{A:Option Addr}{h:View}{e t te:TypeId}{k i j g sz bs:Nat}{x y:Operand}{α:Type}{xs:List α}{enc:α→Value}{R:View→List Value→α→Prop}
theorem Zg1(w:World)(base:Nat)(t ty e:TypeId)(i:TypeInfo)(z:Value)(size bytes:Nat)(ht:P.underlying t=some (.slice e))(hi:P.info? e=some i)(hz:i.zero=some z)(hsize:i.size=size)(hby:i.bytes=bytes)(v:Value)(n:Nat)(xs:List Value)(hown:w.ownsRow base e size v n xs)(ad:Addr)(m c:Nat)(news:List Value)(hl:news.length=m*size)(hnews:∀j u,news[j]?=some u→w.cell? (ad.add j)=some u)(h1:∀u∈news,u.oneCell'=true)(hm:0<m)(h63:n+m≤140737488355328)(hbytes:(n+m)*bytes≤140737488355328){v':Value}(hr:(Builtin.append_ #[t,t] ty #[v,.slice (some ad) m c]).run P w=.ok v' w'):v'.ownBlock=v.ownBlock∨v'.ownBlock=some w.heap.size:=by
 subst hsize hby
 rcases hown.2 with ⟨rfl,rfl⟩|⟨g,cap,cur,rfl,hbg,hg,hnc,hcm,hcs,htake⟩
 ·rw[Nat.zero_add]at hbytes;rw[run_append_nil (P:=P) w t ty e i z ht hi hz ad m c news hl hnews hm (by omega) (by omega)]at hr;injection hr with hr _;subst hr;exact .inr rfl
 ·by_cases hroom:n+m≤cap
  ·have hfit:n*i.size+news.length≤cur.size:=by rw[hl,hcs,←Nat.add_mul];exact Nat.mul_le_mul_right _ hroom
   rw[run_append_room (P:=P) w t ty e i ht hi g n cap cur hg ad m c news hl hnews h1 hroom hfit]at hr;injection hr with hr _;subst hr;exact .inl rfl
  ·have holds:∀j u,xs[j]?=some u→w.cell? ((⟨g,0,none⟩:Addr).add j)=some u:=hown.cells (g:=g) rfl;rw[run_append_grow (P:=P) w t ty e i z ht hi hz ⟨g,0,none⟩ n cap xs hown.1 holds ad m c news hl hnews (by omega) (by omega) (growslice_fits (by omega) hbytes)]at hr;injection hr with hr _;subst hr;exact .inr rfl
structure OwnSl {α:Type} (sz:Nat) (R:View→List Value→α→Prop) (e:TypeId) (w:World) (base:Nat) (v:Value) (xs:List α):Prop where
 own:∃css:List (List Value),w.ownsRow base e sz v xs.length css.flatten∧css.length=xs.length∧∀i (hi:i<xs.length),∃cs,css[i]?=some cs∧cs.length=sz∧R (View.but w.cell? v.ownBlock) cs xs[i]
def Mono(R:View→List Value→α→Prop):Prop:=∀h h' cs x,R h cs x→VLe h h'→R h' cs x
theorem OwnSl.nil(sz:Nat)(R:View→List Value→α→Prop)(e:TypeId)(w:World)(base:Nat):OwnSl sz R e w base (.slice none 0 0) [] :=
 ⟨[],World.ownsRow_nil _ _ _ _,rfl,fun i hi=>by simp at hi⟩
theorem Zhm{css:List (List Value)}(h:∀i (hi:i<css.length),css[i].length=sz):css.flatten.length=css.length*sz:=by
 induction css with
 |nil=>simp
 |cons c r ih =>
  have h0:=h 0 (by simp);have:=ih (fun i hi=>by have:=h (i+1) (by simp;omega);simpa using this);simp only[List.getElem_cons_zero]at h0;simp[this,h0,Nat.add_mul,Nat.add_comm]
theorem Zgv{css:List (List Value)}(h:∀i (hi:i<css.length),css[i].length=sz){cs:List Value}(hi:css[i]?=some cs)(hj:j<sz):css.flatten[i*sz+j]?=cs[j]?:=by
 induction css generalizing i with
 |nil=>simp at hi
 |cons c r ih =>
  have h0:=h 0 (by simp);simp only[List.getElem_cons_zero]at h0;cases i with
  |zero =>
   simp at hi;subst hi;simp[List.getElem?_append,h0,hj]
  |succ i =>
   have:=ih (fun i hi=>by have:=h (i+1) (by simp;omega);simpa using this) (i:=i) (by simpa using hi);rw[List.flatten_cons,List.getElem?_append_right (by rw[h0,Nat.add_mul];omega),h0,show(i+1)*sz+j-sz=i*sz+j by rw[Nat.add_mul];omega];exact this
theorem OwnSl.form{b:Nat}(h:OwnSl sz R e w b v xs):∃A c,v=.slice A xs.length c:=by
 obtain⟨css,h1,_⟩:=h.own
 rcases h1.2 with ⟨rfl,h2⟩|⟨g,cap,cur,rfl,_⟩
 ·exact⟨none,0,by rw[h2]⟩
 ·exact⟨_,_,rfl⟩
theorem OwnSl.base{b b':Nat}(h:OwnSl sz R e w b v xs)(hb:b'≤b):OwnSl sz R e w b' v xs:=by
 obtain⟨css,⟨h1,h2⟩,h3⟩:=h.own;refine⟨css,⟨h1,?_⟩,h3⟩
 rcases h2 with h2|⟨g,cap,cur,h3,h4,h5⟩
 ·exact .inl h2
 ·exact .inr ⟨g,cap,cur,h3,Nat.le_trans hb h4,h5⟩
theorem Zln(hb:Below w.heap.size w w')(g:Option Nat):VLe (View.but w.cell? g) (View.but w'.cell? g):=Zpr (Zak g hb)
theorem OwnSl.kept(hR:Mono R){b:Nat}(h:OwnSl sz R e w b v xs)(hb:Below w.heap.size w w'):OwnSl sz R e w' b v xs:=by
 obtain⟨css,h1,h2,h3⟩:=h.own
 refine⟨css,h1.kept (row:=none) (Zak _ hb) (by cases v.ownBlock<;>simp),h2,fun i hi=>?_⟩
 obtain⟨cs,q1,q2,q3⟩:=h3 i hi;exact⟨cs,q1,q2,hR _ _ _ _ q3 (Zln hb _)⟩
theorem OwnSl.reads(hR:Mono R){b:Nat}(h:OwnSl sz R e w b v xs)(hbs:xs.length*bs≤140737488355328):RSl sz R bs w.cell? v xs:=by
 obtain⟨css,h1,h2,h3⟩:=h.own
 have hlen:∀i (hi:i<css.length),css[i].length=sz:=fun i hi=>by
  obtain⟨cs,q1,q2,_⟩:=h3 i (by omega);rw[List.getElem?_eq_getElem hi]at q1;injection q1 with q1;rw[q1];exact q2
 rcases id h1.2 with ⟨rfl,h0⟩|⟨g,cap,cur,rfl,k2,k3,k4,k5,k6,k7⟩
 ·have:xs=[]:=List.eq_nil_of_length_eq_zero h0;subst this;exact⟨none,0,rfl,Nat.le_refl _,Nat.zero_le _,by simp,fun _=>rfl,fun h=>by simp at h⟩
 ·refine⟨_,cap,rfl,k4,k5,hbs,(fun h=>by cases h),fun hp=>⟨g,0,rfl,fun i hi=>?_⟩⟩;obtain⟨cs,q1,q2,q3⟩:=h3 i hi;refine⟨cs,q2,fun j hj=>?_,hR _ _ _ _ q3 (View.but_le _ _)⟩;have hf:=Zgv hlen q1 hj;have hj':cs[j]?=some (cs[j]'(by omega)):=List.getElem?_eq_getElem _;rw[hj'];have:=h1.cells (g:=g) rfl (i*sz+j) _ (hf.trans hj');rw[Zbs]at this;rwa[Nat.zero_add]at this⊢
def Elem(P:Program)(t e:TypeId)(sz bytes:Nat):Prop:=P.underlying t=some (.slice e)∧0<sz∧∃i z,P.info? e=some i∧i.zero=some z∧i.size=sz∧i.bytes=bytes∧z.cells.size=sz
theorem Znz{bytes:Nat}{z:Value}(ht:P.underlying t=some (.slice e))(h:(P.info? e).map (fun i=>(i.zero,i.size,i.bytes))=some (some z,sz,bytes))(hz:z.cells.size=sz)(hsz:0<sz):Elem P t e sz bytes:=by
 obtain⟨i0,hi,hz0,hz1,hz2⟩:=info_parts h;exact⟨ht,hsz,i0,z,hi,hz0,hz1,hz2,hz⟩
theorem Zbg(hR:Mono R){a:Act}{bytes base n:Nat}(x:α)(cs:List Value)(hE:Elem P t e sz bytes)(s y:Operand)(ho:o.op=.call {callee:=.builtin .append,args:=#[s,y],argTypes:=#[t,t] })(hs:a.eval s=v)(hown:OwnSl sz R e wr base v xs)(hbl:Below base W wr)(hbase:base≤wr.heap.size){gy:Nat}(hx:a.eval y=.slice (some ⟨gy,0,none⟩) 1 1)(hgy:gy=wr.heap.size)(hl:cs.length=sz)(h1:(cs.all fun u=>u.oneCell')=true)(hxR:R (View.but wr.cell? v.ownBlock) cs x)(hc:n≤140737488355328)(hn:(xs.length+1)*bytes≤n)(hn':xs.length+1≤n)(h:∀v' w',OwnSl sz R e w' base v' (xs++[x])→Below base W w'→wr.grownBy w' v.ownBlock→K (a.put o.dst v') w'):o.wp P a (wr.alloc (.cells cs.toArray e)) K Q:=by
 subst hgy
 obtain⟨ht,hsz,i,z,hi,hz0,hz1,hz2,hzs⟩:=hE
 obtain⟨css,q1,q2,q3⟩:=hown.own
 have h1':∀u∈cs,u.oneCell'=true:=fun u hu=>List.all_eq_true.1 h1 u hu
 have hnews:∀j u,cs[j]?=some u→(wr.alloc (.cells cs.toArray e)).cell? ((⟨wr.heap.size,0,none⟩:Addr).add j)=some u:=fun j u hu=>by
  rw[Zbs,Nat.zero_add,cell_of_row _ _ j cs.toArray e (0,0) (heap_alloc_new wr _)]
  simpa using hu
 have q1':=q1.alloc (.cells cs.toArray e)
 obtain⟨v',w',hr,hro,hg⟩:=Zc2 (P:=P) (wr.alloc (.cells cs.toArray e)) base t o.type e i z sz bytes ht hi hz0 hz1 hz2 hzs hsz v xs.length css.flatten q1' (some ⟨wr.heap.size,0,none⟩) 1 1 cs (by rw[hl,Nat.one_mul]) (fun h=>by cases h)
  (fun ad had=>by obtain rfl:=Option.some.inj had;exact hnews) h1' (Zbw (Nat.le_trans hn' hc)) (Nat.le_trans hn hc) (Zau _ hbase)
 have hloc:=Zg1 (P:=P) (wr.alloc (.cells cs.toArray e)) base t o.type e i z sz bytes ht hi hz0 hz1 hz2 v xs.length css.flatten q1' ⟨wr.heap.size,0,none⟩ 1 1 cs (by rw[hl,Nat.one_mul]) hnews h1' (by decide) (Nat.le_trans hn' hc) (Nat.le_trans hn hc) hr
 have g1:=World.grownBy_alloc wr (.cells cs.toArray e) v.ownBlock
 have g2:=Zaf g1 hg
 have hview:VLe (View.but wr.cell? v.ownBlock) (View.but w'.cell? v'.ownBlock):=by
  intro ad u hu
  have hu0:=hu
  unfold View.but at hu⊢
  split at hu
  ·cases hu
  ·rename_i hne
   have hlt:=World.block_lt_of_cell? wr ad hu
   have hne':¬(some ad.block=v'.ownBlock):=by
    rcases hloc with e|e
    ·rw[e];exact hne
    ·rw[e];intro e;injection e with e;simp at e;omega
   rw[if_neg hne']
   exact g2.cell hu hne
 have hcell:o.wp P a (wr.alloc (.cells cs.toArray e)) K Q:=by
  unfold Oper.wp execOp
  simp[ho,resolve,invoke,builtin,hs,hx,hr,Result.andThen,Oper.upon]
  refine h v' w' ⟨css++[cs],?_,by simp[q2],fun k hk=>?_⟩ ((hbl.alloc hbase _).grown hg (Zau _ hbase) (fun g hg=>(q1.lt g hg).1)) g2
  ·rw[List.flatten_append,List.length_append]
   simpa using hro
  ·by_cases hlt:k<xs.length
   ·obtain⟨c,r1,r2,r3⟩:=q3 k hlt
    refine⟨c,by rw[List.getElem?_append_left (by omega)];exact r1,r2,?_⟩
    rw[List.getElem_append_left hlt]
    exact hR _ _ _ _ r3 hview
   ·have:k=xs.length:=by simp at hk;omega
    subst this
    refine⟨cs,by rw[List.getElem?_append_right (by omega)];simp[q2],hl,?_⟩
    rw[List.getElem_append_right (by omega)]
    simpa using hR _ _ _ _ hxR hview
 exact hcell
theorem Za2(hR:Mono R){a:Act}{bytes base n:Nat}(x:α)(cs:List Value)(hE:Elem P t e sz bytes)(s y:Operand)(hgd:o.guard=none)(ho:o.op=.call {callee:=.builtin .append,args:=#[s,y],argTypes:=#[t,t] })(hs:a.eval s=v)(hown:OwnSl sz R e wr base v xs)(hbl:Below base W wr)(hbase:base≤wr.heap.size){gy:Nat}(hx:a.eval y=.slice (some ⟨gy,0,none⟩) 1 1)(hgy:gy=wr.heap.size)(hl:cs.length=sz)(h1:(cs.all fun u=>u.oneCell')=true)(hxR:R (View.but wr.cell? v.ownBlock) cs x)(hc:n≤140737488355328)(hn:(xs.length+1)*bytes≤n)(hn':xs.length+1≤n)(h:∀v' w',OwnSl sz R e w' base v' (xs++[x])→Below base W w'→wr.grownBy w' v.ownBlock→wpList P ops Q rest (a.put o.dst v') w'):wpList P ops Q (o::rest) a (wr.alloc (.cells cs.toArray e)) :=
 wpList_plain hgd fun _ hK=>Zbg hR x cs hE s y ho hs hown hbl hbase hx hgy hl h1 hxR hc hn hn' fun v' w' h2 h3 h4=>hK _ _ (h v' w' h2 h3 h4)
theorem OwnSl.lt{b:Nat}(h:OwnSl sz R e w b v xs):∀k,v.ownBlock=some k→b≤k∧k<w.heap.size:=by
 obtain⟨css,h1,_⟩:=h.own;exact h1.lt
theorem RSl.take{n c:Nat}(hr:RSl sz R bs h (.slice A n c) xs)(hk:k≤xs.length):RSl sz R bs h (.slice A k c) (xs.take k):=by
 obtain⟨A',c',e,h1,h2,h3,h4,h5⟩:=hr;injection e with e1 e2 e3;subst e1 e2 e3;have hl:(xs.take k).length=k:=by simp;omega
 refine⟨A,c,by rw[hl],by omega,h2,?_,h4,fun hp=>?_⟩
 ·rw[hl];exact Nat.le_trans (Nat.mul_le_mul_right _ hk) h3
 ·obtain⟨b,o,ea,hc⟩:=h5 (by omega);refine⟨b,o,ea,fun i hi=>?_⟩;rw[hl]at hi;obtain⟨cs,q1,q2,q3⟩:=hc i (by omega);exact⟨cs,q1,q2,by rw[List.getElem_take];exact q3⟩
theorem OwnVec.reads_but{base:Nat}(h:OwnVec enc e w base v xs)(hb:xs.length*bs≤140737488355328){g:Option Nat}(hg:∀k,g=some k→k<base):RVec enc bs (View.but w.cell? g) v xs:=by
 have hlt:=h.own.lt;obtain⟨A,c,e1,q1,q2,q3,q4,q5⟩:=h.reads hb;refine⟨A,c,e1,q1,q2,q3,q4,fun hp=>?_⟩;obtain⟨b,o,ea,hc⟩:=q5 hp;refine⟨b,o,ea,fun i hi=>?_⟩;have hb':=(hlt b (by rw[e1,ea];rfl)).1;unfold View.but;rw[if_neg (by intro e;have:=hg _ e.symm;simp at this;omega)];exact hc i hi
def View.from(h:View)(b:Nat):View:=fun a=>if a.block<b then none else h a
theorem View.from_le(h:View)(b:Nat):VLe (h.from b) h:=fun a v e=>by
 unfold View.from at e
 split at e
 ·cases e
 ·exact e
theorem Za0{h':View}(b:Nat)(hle:VLe h h'):VLe (View.from h b) (View.from h' b):=fun a v e=>by
 unfold View.from at e⊢
 split at e
 ·cases e
 ·rename_i hne
  rw[if_neg hne]
  exact hle a v e
def RFrom(b:Nat)(R:View→List Value→α→Prop):View→List Value→α→Prop:=fun h cs x=>R (h.from b) cs x
theorem RFrom.mono{b:Nat}(hR:Mono R):Mono (RFrom b R):=fun h h' cs x hr hle=>hR _ _ _ _ hr (Za0 b hle)
structure Chg (G:List Nat) (w w':World):Prop where
 os:w'.os=w.os
 tape:w'.tape=w.tape
 output:w'.output=w.output
 size:w.heap.size≤w'.heap.size
 block:∀k,k<w.heap.size→k∉G→w'.heap[k]?=w.heap[k]?
section
variable {G:List Nat} {a b c w w':World}
theorem Chg.refl(G:List Nat)(w:World):Chg G w w:=⟨rfl,rfl,rfl,Nat.le_refl _,fun _ _ _=>rfl⟩
theorem Chg.drew(h:Chg G a b):Chg G a b.drew:=⟨h.os,h.tape,h.output,h.size,h.block⟩
theorem Chg.trans(h:Chg G a b)(k:Chg G b c):Chg G a c :=
 ⟨k.os.trans h.os,k.tape.trans h.tape,k.output.trans h.output,Nat.le_trans h.size k.size,fun i hi hn=>(k.block i (Nat.lt_of_lt_of_le hi h.size) hn).trans (h.block i hi hn)⟩
theorem Chg.sub{G':List Nat}(h:Chg G a b)(hs:∀g∈G,g∈G'∨a.heap.size≤g):Chg G' a b :=
 ⟨h.os,h.tape,h.output,h.size,fun i hi hn=>h.block i hi (fun hm=>(hs i hm).elim hn (fun hle=>Nat.lt_irrefl _ (Nat.lt_of_lt_of_le hi hle)))⟩
theorem Chg.of_below{B:Nat}(h:Below B a b)(hB:a.heap.size≤B):Chg G a b:=⟨h.os,h.tape,h.output,h.size,fun i hi _=>h.block i (Nat.lt_of_lt_of_le hi hB)⟩
theorem Chg.of_grown{r:Option Nat}(h:a.grownBy b r)(hr:∀g,r=some g→g∈G):Chg G a b :=
 ⟨h.os,h.tape,h.output,h.size,fun i hi hn=>h.block i hi (fun e=>hn (hr i e.symm))⟩
theorem Chg.below{B:Nat}(h:Chg G a b)(hG:∀g∈G,B≤g)(hB:B≤a.heap.size):Below B a b :=
 ⟨h.os,h.tape,h.output,h.size,fun k hk=>h.block k (Nat.lt_of_lt_of_le hk hB) (fun hm=>Nat.lt_irrefl _ (Nat.lt_of_lt_of_le hk (hG k hm)))⟩
theorem Chg.cell(h:Chg G a b)(k o:Nat)(hk:k<a.heap.size)(hn:k∉G):b.cell? ⟨k,o,none⟩=a.cell? ⟨k,o,none⟩:=World.cell?_of_block (h.block k hk hn)
theorem Blk.chg(h:Blk a g t cs)(hc:Chg G a b)(hg:g∉G):Blk b g t cs:=(hc.block g h.lt hg).trans h
theorem Zil{B:Nat}(hc:Chg G a b)(hG:∀g∈G,g<B):VLe (View.from a.cell? B) (View.from b.cell? B):=by
 intro ad v e;unfold View.from at e⊢;split at e
 ·cases e
 ·rename_i hB;have hlt:=World.block_lt_of_cell? a ad e;rw[if_neg hB,World.cell?_of_block (hc.block ad.block hlt (fun hm=>hB (hG _ hm)))];exact e
end
abbrev Arr(w:World)(g:Nat)(t:TypeId)(enc:α→Value)(xs:List α):Prop:=Blk w g t (xs.map enc).toArray
theorem Arr.at(h:Arr w g t enc xs)(i:Nat)(hi:i<xs.length):w.cell? ⟨g,i,none⟩=some (enc xs[i]):=by
 rw[h.cell];simp[hi]
theorem Zz3{x:α}(hi:i<xs.length):((xs.map enc).take i++([enc x]++(xs.map enc).drop (i+1)))=(xs.set i x).map enc:=by
 rw[List.map_set,List.set_eq_take_append_cons_drop,if_pos (by simpa using hi)];rfl
theorem Zbt{a:Act}(u:α)(ho:o.op=.store t x y)(hx:a.eval x=.pointer (some ⟨g,i,none⟩))(hy:a.eval y=enc u)(ht:(P.info? t).map (·.size)=some 1)(hn:(enc u).cells=#[enc u])(h1:(enc u).oneCell'=true)(hb:Arr w g te enc xs)(hi:i<xs.length)(h:∀w',Arr w' g te enc (xs.set i u)→w.grownBy w' (some g)→K (a.put o.dst undef) w'):o.wp P a w K Q:=by
 refine Zav ho hx hy ht (by rw[hn];rfl) hb (by simp;omega) (by rw[hn];simpa using h1) (fun w' hb' hg=>h w' ?_ hg);rw[hn,show(#[enc u]:Array Value).toList=[enc u] from rfl,List.toList_toArray,Zz3 hi]at hb';exact hb'
theorem Zoc{a:Act}{n c B:Nat}(u:α)(ho:o.op=.store t x y)(hx:a.eval x=.pointer (some ⟨g,i,none⟩))(hy:a.eval y=enc u)(ht:(P.info? t).map (·.size)=some 1)(hn:(enc u).cells=#[enc u])(h1:(enc u).oneCell'=true)(hb:OwnVec enc e w B (.slice (some ⟨g,0,none⟩) n c) xs)(hi:i<xs.length)(h:∀w',OwnVec enc e w' B (.slice (some ⟨g,0,none⟩) n c) (xs.set i u)→w.grownBy w' (some g)→K (a.put o.dst undef) w'):o.wp P a w K Q:=by
 obtain⟨q1,q2⟩:=hb.own
 rcases q2 with ⟨e1,_⟩|⟨g',cap',cur,e1,h2,h3,h4,h5,h6,h7⟩
 ·cases e1
 ·injection e1 with e1 e2 e3;injection e1 with e1;injection e1 with e1 _ _;subst e1 e2 e3;have hlen:cur.size=c:=by simpa using h6
  refine Zav ho hx hy ht (by rw[hn];rfl) (show Blk w g e cur from h3) (by omega) (by rw[hn];simpa using h1) (fun w' hb' hg=>h w' ⟨?_⟩ hg);rw[hn,show(#[enc u]:Array Value).toList=[enc u] from rfl]at hb';rw[List.length_set];refine⟨by simp,.inr ⟨g,c,_,rfl,h2,hb',h4,h5,?_,?_⟩⟩
  ·simp;omega
  ·rw[List.toList_toArray,List.singleton_append]
   have hs:cur.toList.take i++enc u::cur.toList.drop (i+1)=cur.toList.set i (enc u):=by
    rw[List.set_eq_take_append_cons_drop,if_pos (by simp;omega)]
   rw[hs,List.take_set,h7,List.map_set]
theorem OwnVec.lit{B n:Nat}(hb:Blk w g e (xs.map enc).toArray)(hB:B≤g)(hn:n=xs.length)(hm:n≤140737488355328):OwnVec enc e w B (.slice (some ⟨g,0,none⟩) n n) xs:=by
 subst hn;exact⟨by simp,.inr ⟨g,xs.length,_,rfl,hB,hb,Nat.le_refl _,Zbw hm,by simp,by simp[List.take_of_length_le]⟩⟩
theorem Zcn{a:Act}{bytes base n:Nat}{vy:Value}{ys:List α}(hE:Zjx P t e bytes)(h1:∀x:α,(enc x).oneCell'=true)(s y:Operand)(ho:o.op=.call {callee:=.builtin .append,args:=#[s,y],argTypes:=#[t,t] })(hs:a.eval s=v)(hown:OwnVec enc e wr base v xs)(hbase:base≤wr.heap.size)(hx:a.eval y=vy)(hy:RVec enc bytes wr.cell? vy ys)(hc:n≤140737488355328)(hn:(xs.length+ys.length)*bytes≤n)(hn':xs.length+ys.length≤n)(h:∀v' w',OwnVec enc e w' base v' (xs++ys)→wr.grownBy w' v.ownBlock→(0<ys.length→∀k,v'.ownBlock=some k→v.ownBlock=some k∨wr.heap.size≤k)→K (a.put o.dst v') w'):o.wp P a wr K Q:=by
 obtain⟨ht,i,z,hi,hz0,hz1,hz2,hzs⟩:=hE;obtain⟨A,c,rfl,_⟩:=id hy;obtain⟨_,_,_,hl,hA,hcell⟩:=hy.src;have hone:∀u∈ys.map enc,u.oneCell'=true:=fun u hu=>by obtain⟨x,_,rfl⟩:=List.mem_map.1 hu;exact h1 x
 obtain⟨v',w',hr,h2,h3⟩:=Zc2 (P:=P) wr base t o.type e i z 1 bytes ht hi hz0 hz1 hz2 hzs (by decide) v xs.length _ hown.own A ys.length c (ys.map enc) hl hA hcell hone (Zbw (Nat.le_trans hn' hc)) (Nat.le_trans hn hc) hbase
 have hloc:0<ys.length→∀k,v'.ownBlock=some k→v.ownBlock=some k∨wr.heap.size≤k:=fun hp k hk=>by
  cases A with
  |none=>have:=(hA rfl).1;omega
  |some ad =>
   rcases Zg1 (P:=P) wr base t o.type e i z 1 bytes ht hi hz0 hz1 hz2 v xs.length _ hown.own ad ys.length c (ys.map enc) hl (hcell ad rfl) hone hp (Nat.le_trans hn' hc) (Nat.le_trans hn hc) hr with q|q
   ·exact .inl (by rw[←q];exact hk)
   ·rw[q]at hk;injection hk with hk;exact .inr (by omega)
 unfold Oper.wp execOp;simp[ho,resolve,invoke,builtin,hs,hx,hr,Result.andThen,Oper.upon];exact h v' w' ⟨by simpa using h2⟩ h3 hloc
theorem Zcf{a:Act}{bytes base n:Nat}{vy:Value}{ys:List α}(hE:Zjx P t e bytes)(h1:∀x:α,(enc x).oneCell'=true)(s y:Operand)(hgd:o.guard=none)(ho:o.op=.call {callee:=.builtin .append,args:=#[s,y],argTypes:=#[t,t] })(hs:a.eval s=v)(hown:OwnVec enc e wr base v xs)(hbase:base≤wr.heap.size)(hx:a.eval y=vy)(hy:RVec enc bytes wr.cell? vy ys)(hc:n≤140737488355328)(hn:(xs.length+ys.length)*bytes≤n)(hn':xs.length+ys.length≤n)(h:∀v' w',OwnVec enc e w' base v' (xs++ys)→wr.grownBy w' v.ownBlock→(0<ys.length→∀k,v'.ownBlock=some k→v.ownBlock=some k∨wr.heap.size≤k)→wpList P ops Q rest (a.put o.dst v') w'):wpList P ops Q (o::rest) a wr :=
 wpList_plain hgd fun _ hK=>Zcn hE h1 s y ho hs hown hbase hx hy hc hn hn' fun v' w' h2 h3 h4=>hK _ _ (h v' w' h2 h3 h4)
theorem Zea{a:Act}(u:α)(hgd:o.guard=none)(ho:o.op=.store t x y)(hx:a.eval x=.pointer (some ⟨g,i,none⟩))(hy:a.eval y=enc u)(ht:(P.info? t).map (·.size)=some 1)(hn:(enc u).cells=#[enc u])(h1:(enc u).oneCell'=true)(hb:Arr w g te enc xs)(hi:i<xs.length)(h:∀w',Arr w' g te enc (xs.set i u)→w.grownBy w' (some g)→wpList P ops Q rest (a.put o.dst undef) w'):wpList P ops Q (o::rest) a w :=
 wpList_plain hgd fun _ hK=>Zbt u ho hx hy ht hn h1 hb hi fun w' h2 h3=>hK _ _ (h w' h2 h3)
theorem Zck{a:Act}{n:Nat}{new:Array Value}(hgd:o.guard=none)(ho:o.op=.store t x y)(hx:a.eval x=.pointer (some ⟨g,0,none⟩))(hy:a.eval y=.agg new)(hi:(P.info? t).map (·.size)=some n)(hn:new.size=n)(hb:Blk w g te cs)(hcs:cs.size=n)(h1:(new.toList.all fun u=>u.oneCell')=true)(h:∀w',Blk w' g te new→w.grownBy w' (some g)→wpList P ops Q rest (a.put o.dst undef) w'):wpList P ops Q (o::rest) a w :=
 wpList_plain hgd fun _ hK=>Zc0 ho hx hy hi hn hb hcs h1 fun w' h2 h3=>hK _ _ (h w' h2 h3)
theorem Zj{a:Act}{new:Array Value}(n:Nat)(hb:Blk w g te cs)(h:∀w',Blk w' g te new→w.grownBy w' (some g)→wpList P ops Q rest (a.put o.dst undef) w')(hgd:o.guard=none:=by exact rfl)(ho:o.op=.store t x y:=by exact rfl)(hx:a.eval x=.pointer (some ⟨g,0,none⟩):=by exact rfl)(hy:a.eval y=.agg new:=by exact rfl)(hi:(P.info? t).map (·.size)=some n:=by kernel_rfl)(hn:new.size=n:=by exact rfl)(hcs:cs.size=n:=by exact rfl)(h1:(new.toList.all fun u=>u.oneCell')=true:=by exact rfl):wpList P ops Q (o::rest) a w:=Zck hgd ho hx hy hi hn hb hcs h1 h
section
variable {P:Program} {ops:Array Oper} {Q:Exit→Act→World→Prop} {S:World→Prop} {C:List Nat}
def wpC(P:Program)(ops:Array Oper)(Q:Exit→Act→World→Prop)(S:World→Prop)(C:List Nat):Nat→Array Bool→Act→World→Prop
 |0,listed,a,w=>Region.ready .any ops listed=[]∧Q .normal a w
 |fuel+1,listed,a,w =>
  (Region.ready .any ops listed=[]→Q .normal a w) ∧
  ∀i∈Region.ready .any ops listed,wpOp P ops Q i (fun a' w'=>(i∉C→S w')∧wpC P ops Q S C fuel (listed.setIfInBounds i true) a' w') a w
theorem Zik:∀(fuel:Nat) (listed:Array Bool) (a:Act) (w:World),wpC P ops Q S C fuel listed a w→wpAny P .any ops Q fuel listed a w
 |0,_,_,_,h=>h
 |fuel+1,_,_,_,h=>⟨h.1,fun i hi=>wpOp_mono (fun a' w' h'=>Zik fuel _ a' w' h'.2) (h.2 i hi)⟩
inductive Pl where
 |nil
 |q (i:Nat) (p:Pl)
 |qc (i:Nat) (p:Pl)
 |l (i:Nat) (p:Pl)
 |alt (i:Nat) (p:Pl) (j:Nat) (r:Pl)
def Pl.fuel:Pl→Nat
 |.nil=>0
 |.q _ p=>p.fuel+1
 |.qc _ p=>p.fuel+1
 |.l _ p=>p.fuel+1
 |.alt _ p _ _=>p.fuel+1
def owed(S:World→Prop)(C:List Nat)(i:Nat)(w:World):Prop:=if C.contains i then True else S w
def Pl.wp(P:Program)(ops:Array Oper)(Q:Exit→Act→World→Prop)(S:World→Prop)(C:List Nat):Pl→Act→World→Prop
 |.nil,a,w=>Q .normal a w
 |.q i p,a,w=>∃o v,ops[i]?=some o∧YieldsIf P ops S o v a∧(S w∧p.wp P ops Q S C (a.put o.dst v) w)
 |.qc i p,a,w=>∃o v,ops[i]?=some o∧YieldsIf P ops (fun _=>True) o v a∧p.wp P ops Q S C (a.put o.dst v) w
 |.l i p,a,w=>wpOp P ops Q i (fun a' w'=>owed S C i w'∧p.wp P ops Q S C a' w') a w
 |.alt i p j r,a,w=>wpOp P ops Q i (fun a' w'=>owed S C i w'∧p.wp P ops Q S C a' w') a w∧wpOp P ops Q j (fun a' w'=>owed S C j w'∧r.wp P ops Q S C a' w') a w
theorem Zfy(h:owed S C i w)(hn:i∉C):S w:=by
 unfold owed at h;rw[if_neg (by simpa using hn)]at h;exact h
theorem Zah{a:Act}(h:Q .normal a w):Pl.wp P ops Q S C .nil a w:=h
theorem pl_q{p:Pl}{a:Act}(hS:S w)(ho:ops[i]?=some o)(hw:Region.wanted o (yielded ops a.tmps)=true)(h:∃v,(∀w,S w→(execOp a.eval o).run P w=.ok (.value v) w)∧p.wp P ops Q S C (a.put o.dst v) w):Pl.wp P ops Q S C (.q i p) a w :=
 let ⟨v,hv,h⟩:=h
 ⟨o,v,ho,.inl ⟨hw,hv⟩,hS,h⟩
theorem pl_qc{p:Pl}{a:Act}(ho:ops[i]?=some o)(hw:Region.wanted o (yielded ops a.tmps)=true)(h:∃v,(∀w,True→(execOp a.eval o).run P w=.ok (.value v) w)∧p.wp P ops Q S C (a.put o.dst v) w):Pl.wp P ops Q S C (.qc i p) a w :=
 let ⟨v,hv,h⟩:=h
 ⟨o,v,ho,.inl ⟨hw,hv⟩,h⟩
theorem Zuu{p:Pl}{a:Act}(hS:S w)(ho:ops[i]?=some o)(hw:Region.wanted o (yielded ops a.tmps)=false)(h:p.wp P ops Q S C (a.put o.dst undef) w):Pl.wp P ops Q S C (.q i p) a w:=⟨o,undef,ho,.inr ⟨hw,rfl⟩,hS,h⟩
theorem Zw6{p:Pl}{a:Act}(hS:S w)(ho:ops[i]?=some o)(hw:Region.wanted o (yielded ops a.tmps)=false)(h:p.wp P ops Q S C (a.put o.dst undef) w):Pl.wp P ops Q S C (.l i p) a w:=by
 show wpOp _ _ _ _ _ _ _;unfold wpOp;simp only[ho,hw];refine⟨?_,h⟩;unfold owed;split
 ·trivial
 ·exact hS
theorem op_do{R:Act→World→Prop}{a:Act}(ho:ops[i]?=some o)(hw:Region.wanted o (yielded ops a.tmps)=true)(h:∀K:Act→World→Prop,Shut (∀a' w',S w'→(S w'→R a' w')→K a' w')→Oper.wp P o a w K Q):wpOp P ops Q i (fun a' w'=>owed S C i w'∧R a' w') a w:=by
 unfold wpOp;simp only[ho,hw,if_true]
 exact .inl (h _ (fun a' w' h1 h2=>⟨by unfold owed;split<;>first|trivial|exact h1,h2 h1⟩))
theorem Zxc{R:Act→World→Prop}{a:Act}(ho:ops[i]?=some o)(hw:Region.wanted o (yielded ops a.tmps)=true)(hc:C.contains i=true)(h:∀K:Act→World→Prop,Shut (∀a' w',R a' w'→K a' w')→Oper.wp P o a w K Q):wpOp P ops Q i (fun a' w'=>owed S C i w'∧R a' w') a w:=by
 unfold wpOp;simp only[ho,hw,if_true];exact .inl (h _ (fun a' w' h1=>⟨by unfold owed;rw[if_pos hc];trivial,h1⟩))
theorem Zcl{p r:Pl}{a:Act}(h1:wpOp P ops Q i (fun a' w'=>owed S C i w'∧p.wp P ops Q S C a' w') a w)(h2:wpOp P ops Q j (fun a' w'=>owed S C j w'∧r.wp P ops Q S C a' w') a w):Pl.wp P ops Q S C (.alt i p j r) a w:=⟨h1,h2⟩
end
section
variable {P:Program} {ops:Array Oper} {Q:Exit→Act→World→Prop} {S:World→Prop} {C:List Nat}
def Zjf(ops:Array Oper):Nat→Nat→Nat→Bool
 |0,_,_=>false
 |n+1,j,i=>match ops[j]? with
  |some o=>o.after.any fun e=>Region.binds .any e&&(e.on==i||Zjf ops n e.on i)
  |none=>false
def Cl(ops:Array Oper)(x:Array Bool):Prop:=∀j oj,ops[j]?=some oj→x.getD j false=true→∀e∈oj.after,Region.binds .any e=true→x.getD e.on false=true
theorem Zje{x:Array Bool}(hcl:Cl ops x):∀(n j i:Nat),Zjf ops n j i=true→(∀o,ops[j]?=some o→∀e∈o.after,Region.binds .any e=true→x.getD e.on false=true)→x.getD i false=true
 |0,_,_,h,_=>by simp[Zjf]at h
 |n+1,j,i,h,hd=>by
  unfold Zjf at h
  split at h
  ·rename_i o ho
   obtain⟨k,hk,h1⟩:=Array.any_eq_true.1 h
   simp only[Bool.and_eq_true,Bool.or_eq_true,beq_iff_eq]at h1
   have hl:=hd o ho _ (Array.getElem_mem hk) h1.1
   rcases h1.2 with h2|h2
   ·rw[←h2];exact hl
   ·exact Zje hcl n _ i h2 (fun o' ho' e he hb=>hcl _ o' ho' hl e he hb)
  ·cases h
theorem Zmy{x:Array Bool}(hcl:Cl ops x)(hj:j∈Region.ready .any ops x):Cl ops (x.setIfInBounds j true):=fun k ok hk hl e he hb=>by
 obtain⟨_,oj,hoj,hall⟩:=mem_ready.1 hj
 by_cases hkj:k=j
 ·subst hkj
  obtain rfl:=Option.some.inj (hk.symm.trans hoj)
  exact getD_set_true (hall e he hb)
 ·rw[getD_set_ne false (Ne.symm hkj)]at hl
  exact getD_set_true (hcl k ok hk hl e he hb)
theorem Zyc(n:Nat):Cl ops (Array.replicate n false):=fun j oj hj hl=>by
 simp[Array.getElem?_replicate]at hl
 split at hl<;>simp_all
end
section
variable {P:Program} {ops:Array Oper} {Q:Exit→Act→World→Prop} {S:World→Prop} {C:List Nat}
def Zi1:Op→Bool
 |.extract _ _=>true
 |.move _=>true
 |_=>false
theorem Zr7{oj:Oper}(hj:ops[j]?=some oj)(he:Zi1 oj.op=true){a:Act}(h:wpOp P ops Q j K a w):wpOp P ops Q j (fun a' w'=>w'=w∧K a' w') a w:=by
 unfold wpOp at *;simp only[hj]at *;split
 ·rename_i hw;simp only[hw,if_true]at h;refine h.imp (fun h=>?_) id;unfold Oper.wp at *;unfold Zi1 at he;split at he
  ·rename_i x k ho;unfold execOp at *;simp only[ho]at *
   have hx:(∃v,(Instr.extract (a.eval x) k).run P w=.ok v w)∨∃y w2,(Instr.extract (a.eval x) k).run P w=.halt y w2:=by
    cases hr:(Instr.extract (a.eval x) k).run P w with
    |halt y w2=>exact .inr ⟨y,w2,rfl⟩
    |ok v w2 =>
     left;refine⟨v,?_⟩;unfold Instr.extract at hr;split at hr
     ·split at hr
      ·simp only[Sem.run_pure]at hr;injection hr with h1 h2;rw[←h1,h2]
      ·simp at hr
     ·simp at hr
   rcases hx with ⟨v,hv⟩|⟨y,w2,hy⟩
   ·rw[Sem.run_bind,hv]at h⊢;simp only[Result.andThen_ok,Sem.run_pure]at h⊢;exact⟨rfl,h⟩
   ·rw[Sem.run_bind,hy]at h⊢
    cases y<;>simp only[Result.andThen,Oper.upon]at h⊢<;>exact h
  ·rename_i x ho;unfold execOp at *;simp only[ho]at *;simp only[Sem.run_pure]at h⊢;exact⟨rfl,h⟩
  ·cases he
 ·rename_i hw;simp only[hw]at h;exact⟨trivial,h⟩
theorem Zma{T:World→Prop}{oi:Oper}(m:Nat)(hi:ops[i]?=some oi)(hsel:∀(j:Nat) (o:Oper) cs b,ops[j]?=some o→o.op≠.select cs b)(hQ:∀c a w,Q (.panic c) (a.put oi.dst v) w→Q (.panic c) a w)(hT:∀j oj w w',ops[j]?=some oj→Zjf ops m j i=false→(Zi1 oj.op=true→w'=w)→T w→(j∉C→S w')→T w')(hiC:i∉C→∀w,T w→S w) :
 ∀(fuel:Nat) (listed:Array Bool) (a:Act) (w:World),Cl ops listed →
  (∀j oj,ops[j]?=some oj→j≠i→listed.getD j true=false→(∀e∈oj.after,Region.binds .any e=true→e.on≠i)→oi.apart ops oj=true) →
  i∈Region.ready .any ops listed→YieldsIf P ops T oi v a→T w →
  wpC P ops Q S C fuel (listed.setIfInBounds i true) (a.put oi.dst v) w→wpC P ops Q S C (fuel+1) listed a w:=by
 intro fuel
 induction fuel with
 |zero =>
  intro listed a w _ _ hr hy hTw H;refine⟨fun h=>(by rw[h]at hr;cases hr),fun j hj=>?_⟩
  by_cases hji:j=i
  ·subst hji;exact hy.wpOp hi hTw ⟨fun hn=>hiC hn w hTw,H⟩
  ·have:=ready_mono hj hji;rw[H.1]at this;cases this
 |succ fuel ih =>
  intro listed a w hcl hfree hr hy hTw H;refine⟨fun h=>(by rw[h]at hr;cases hr),fun j hj=>?_⟩
  by_cases hji:j=i
  ·subst hji;exact hy.wpOp hi hTw ⟨fun hn=>hiC hn w hTw,H⟩
  ·have h1:=H.2 j (ready_mono hj hji);obtain⟨hjun,oj,hoj,hall⟩:=mem_ready.1 hj
   have hiun:listed.getD i false=true→False:=fun h1=>by
    have h0:=(mem_ready.1 hr).1
    rcases Nat.lt_or_ge i listed.size with h'|h'
    ·simp[h']at h0 h1;rw[h0]at h1;cases h1
    ·simp[Array.getElem?_eq_none h']at h1
   have hnot:∀e∈oj.after,Region.binds .any e=true→e.on≠i:=fun e he hb heq=>hiun (by rw[←heq];exact hall e he hb)
   have hreach:Zjf ops m j i=false:=by
    cases hr':Zjf ops m j i
    ·rfl
    ·exact(hiun (Zje hcl m j i hr' (fun o ho e he hb=>by obtain rfl:=Option.some.inj (ho.symm.trans hoj);exact hall e he hb))).elim
   have h2:=wpOp_putIf hoj (hfree j oj hoj hji hjun hnot) (fun cs b=>hsel i oi cs b hi) (fun cs b=>hsel j oj cs b hoj) hQ hy h1
   have hfree':∀k ok,ops[k]?=some ok→k≠i→(listed.setIfInBounds j true).getD k true=false →
    (∀e∈ok.after,Region.binds .any e=true→e.on≠i)→oi.apart ops ok=true:=fun k ok hk hki hun hno=>by
    refine hfree k ok hk hki ?_ hno
    by_cases hjk:j=k
    ·subst hjk;exact hjun
    ·rw[getD_set_ne true hjk]at hun;exact hun
   have h2':wpOp P ops Q j (fun a' w'=>(Zi1 oj.op=true→w'=w)∧(YieldsIf P ops T oi v a'∧((j∉C→S w')∧wpC P ops Q S C fuel ((listed.setIfInBounds i true).setIfInBounds j true) (a'.put oi.dst v) w'))) a w:=by
    by_cases he:Zi1 oj.op=true
    ·exact wpOp_mono (fun a' w' h3=>⟨fun _=>h3.1,h3.2⟩) (Zr7 hoj he h2)
    ·exact wpOp_mono (fun a' w' h3=>⟨fun h=>absurd h he,h3⟩) h2
   refine wpOp_mono (fun a' w' h3=>⟨h3.2.2.1,ih (listed.setIfInBounds j true) a' w' (Zmy hcl hj) hfree' (ready_mono hr (Ne.symm hji)) h3.2.1 (hT j oj w w' hoj hreach h3.1 hTw h3.2.2.1) ?_⟩) h2';rw[Array.setIfInBounds_comm _ _ hji];exact h3.2.2.2
def Zyb(ops:Array Oper)(C:List Nat)(i:Nat):Bool:=C.all fun j=>(match ops[j]? with|some o=>Zi1 o.op|none=>false)||Zjf ops 9 j i
def Pl.ok7(ops:Array Oper)(C:List Nat):Pl→Array Bool→Bool
 |.nil,x=>(Region.ready .any ops x).isEmpty
 |.q i p,x=>Region.free .any ops x i&&(Region.ready .any ops x).contains i&&Zyb ops C i&& !C.contains i&&p.ok7 ops C (x.setIfInBounds i true)
 |.qc i p,x=>Region.free .any ops x i&&(Region.ready .any ops x).contains i&&C.contains i&&p.ok7 ops C (x.setIfInBounds i true)
 |.l i p,x=>Region.ready .any ops x==[i]&&p.ok7 ops C (x.setIfInBounds i true)
 |.alt i p j r,x=>Region.ready .any ops x==[i,j]&&p.ok7 ops C (x.setIfInBounds i true)&&r.ok7 ops C (x.setIfInBounds j true)&&p.fuel==r.fuel
theorem Pl.sound7(hs:Region.noSelect ops=true)(hQ:∀c a d v w,Q (.panic c) (Act.put a d v) w→Q (.panic c) a w) :
 ∀(t:Pl) (x:Array Bool) (a:Act) (w:World),Cl ops x→t.ok7 ops C x=true→t.wp P ops Q S C a w→wpC P ops Q S C t.fuel x a w
 |.nil,x,a,w,_,hp,h=>⟨by simpa[Pl.ok7]using hp,h⟩
 |.q i p,x,a,w,hcl,hp,h=>by
  obtain⟨o,v,ho,hy,hSw,hr⟩:=h
  simp only[Pl.ok7,Bool.and_eq_true,Bool.not_eq_true']at hp
  obtain⟨⟨⟨⟨h1,h2⟩,h3⟩,h4⟩,h5⟩:=hp
  have hm:i∈Region.ready .any ops x:=by simpa using h2
  refine Zma (T:=S) 9 ho (Region.noSelect_spec hs) (fun c a w=>hQ c a o.dst v w) (fun j oj w0 w' hj hno hx hTw hS=>?_) (fun _ _ h=>h) p.fuel x a w hcl (Region.free_spec ho h1) hm hy hSw (Pl.sound7 hs hQ p _ _ w (Zmy hcl hm) h5 hr)
  by_cases hm:j∈C
  ·have:=List.all_eq_true.1 h3 j hm
   rw[hno,hj]at this
   simp only[Bool.or_false]at this
   rw[hx this]
   exact hTw
  ·exact hS hm
 |.qc i p,x,a,w,hcl,hp,h=>by
  obtain⟨o,v,ho,hy,hr⟩:=h
  simp only[Pl.ok7,Bool.and_eq_true]at hp
  obtain⟨⟨⟨h1,h2⟩,h3⟩,h5⟩:=hp
  have hm:i∈Region.ready .any ops x:=by simpa using h2
  refine Zma (T:=fun _=>True) 9 ho (Region.noSelect_spec hs) (fun c a w=>hQ c a o.dst v w) (fun _ _ _ _ _ _ _ _ _=>trivial) (fun hn _ _=>absurd (by simpa using h3) hn) p.fuel x a w hcl (Region.free_spec ho h1) hm hy trivial (Pl.sound7 hs hQ p _ _ w (Zmy hcl hm) h5 hr)
 |.l i p,x,a,w,hcl,hp,h=>by
  simp only[Pl.ok7,Bool.and_eq_true,beq_iff_eq]at hp
  refine⟨fun h0=>by rw[h0]at hp;exact absurd hp.1 (by simp),fun j hj=>?_⟩
  have hj':=hj
  rw[hp.1]at hj
  rw[List.mem_singleton.1 hj]
  rw[List.mem_singleton.1 hj]at hj'
  exact wpOp_mono (fun a' w' hK=>⟨Zfy hK.1,Pl.sound7 hs hQ p _ a' w' (Zmy hcl hj') hp.2 hK.2⟩) h
 |.alt i p j r,x,a,w,hcl,hp,h=>by
  simp only[Pl.ok7,Bool.and_eq_true,beq_iff_eq]at hp
  obtain⟨⟨⟨h1,h2⟩,h3⟩,h4⟩:=hp
  refine⟨fun h0=>by rw[h0]at h1;exact absurd h1 (by simp),fun k hk=>?_⟩
  have hk':=hk
  rw[h1]at hk
  simp only[List.mem_cons,List.not_mem_nil,or_false]at hk
  rcases hk with rfl|rfl
  ·exact wpOp_mono (fun a' w' hK=>⟨Zfy hK.1,Pl.sound7 hs hQ p _ a' w' (Zmy hcl hk') h2 hK.2⟩) h.1
  ·exact wpOp_mono (fun a' w' hK=>⟨Zfy hK.1,by have:=Pl.sound7 hs hQ r _ a' w' (Zmy hcl hk') h3 hK.2;rw[←h4]at this;exact this⟩) h.2
theorem Zod{id:Nat}{l:List Oper}{a:Act}(S0 S:World→Prop)(C:List Nat)(t:Pl)(hm:P.follows .mixedOrders=true)(hs:Region.noSelect l.toArray=true)(hQ:∀c a d v w,Q (.panic c) (Act.put a d v) w→Q (.panic c) a w)(hlen:t.fuel=l.length)(hπ:t.ok7 l.toArray C (Array.replicate l.length false)=true)(hS:S0 w.drew∧S w.drew)(h:∀W,S0 W→S W→t.wp P l.toArray Q S C a W):(Code.region id l.toArray true).wp P Q a w:=by
 refine wp_region_any hm (Zik (S:=S) (C:=C) _ _ _ _ ?_);have:=Pl.sound7 (P:=P) (S:=S) (C:=C) hs hQ t (Array.replicate l.length false) a w.drew (Zyc _) hπ (h _ hS.1 hS.2);rw[hlen]at this;simpa using this
end
theorem pq{C:List Nat}{p:Pl}{a:Act}(hS:S w:=by assumption)(ho:ops[i]?=some o:=by exact rfl)(hw:Region.wanted o (yielded ops a.tmps)=true:=by exact rfl)(h:∃v,(∀w,S w→(execOp a.eval o).run P w=.ok (.value v) w)∧p.wp P ops Q S C (a.put o.dst v) w):Pl.wp P ops Q S C (.q i p) a w:=pl_q hS ho hw h
theorem pc{C:List Nat}{p:Pl}{a:Act}(ho:ops[i]?=some o:=by exact rfl)(hw:Region.wanted o (yielded ops a.tmps)=true:=by exact rfl)(h:∃v,(∀w,True→(execOp a.eval o).run P w=.ok (.value v) w)∧p.wp P ops Q S C (a.put o.dst v) w):Pl.wp P ops Q S C (.qc i p) a w:=pl_qc ho hw h
theorem ps{C:List Nat}{p:Pl}{a:Act}(hS:S w:=by assumption)(ho:ops[i]?=some o:=by exact rfl)(hw:Region.wanted o (yielded ops a.tmps)=false:=by exact rfl)(h:p.wp P ops Q S C (a.put o.dst undef) w):Pl.wp P ops Q S C (.q i p) a w:=Zuu hS ho hw h
namespace Qa
theorem Zq{C:List Nat}{p:Pl}{a:Act}(h:p.wp P ops Q S C (a.put o.dst v) w)(hS:S w:=by assumption)(ho:ops[i]?=some o:=by exact rfl)(hr:(Region.wanted o (yielded ops a.tmps)=true∧∀w,S w→(execOp a.eval o).run P w=.ok (.value v) w)∨(Region.wanted o (yielded ops a.tmps)=false∧v=undef):=by first|exact .inl ⟨rfl,by intro w hS;go_simp;exact rfl⟩|exact .inr ⟨rfl,rfl⟩):Pl.wp P ops Q S C (.q i p) a w :=
 hr.elim (fun g=>pl_q hS ho g.1 ⟨_,g.2,h⟩) (fun g=>Zuu hS ho g.1 (g.2▸h))
end Qa
namespace Qb
theorem Zq{C:List Nat}{p:Pl}{a:Act}(h:p.wp P ops Q S C (a.put o.dst v) w)(ho:ops[i]?=some o:=by exact rfl)(hw:Region.wanted o (yielded ops a.tmps)=true:=by exact rfl)(hr:∀w,True→(execOp a.eval o).run P w=.ok (.value v) w:=by intro w _;go_simp;exact rfl):Pl.wp P ops Q S C (.qc i p) a w:=pl_qc ho hw ⟨_,hr,h⟩
theorem Zd{C:List Nat}{R:Act→World→Prop}{a:Act}(h:∀K:Act→World→Prop,Shut (∀a' w',S w'→(S w'→R a' w')→K a' w')→Oper.wp P o a w K Q)(ho:ops[i]?=some o:=by exact rfl)(hw:Region.wanted o (yielded ops a.tmps)=true:=by exact rfl):wpOp P ops Q i (fun a' w'=>owed S C i w'∧R a' w') a w:=op_do ho hw h
theorem Zc{C:List Nat}{R:Act→World→Prop}{a:Act}(h:∀K:Act→World→Prop,Shut (∀a' w',R a' w'→K a' w')→Oper.wp P o a w K Q)(ho:ops[i]?=some o:=by exact rfl)(hw:Region.wanted o (yielded ops a.tmps)=true:=by exact rfl)(hc:C.contains i=true:=by exact rfl):wpOp P ops Q i (fun a' w'=>owed S C i w'∧R a' w') a w:=Zxc ho hw hc h
end Qb
namespace Qc
theorem Zq{C:List Nat}{p:Pl}{a:Act}(h:p.wp P ops Q S C (a.put o.dst undef) w)(hS:S w:=by assumption)(ho:ops[i]?=some o:=by exact rfl)(hw:Region.wanted o (yielded ops a.tmps)=false:=by exact rfl):Pl.wp P ops Q S C (.l i p) a w:=Zw6 hS ho hw h
end Qc
theorem Zt{id:Nat}{l:List Oper}{a:Act}(S0 S:World→Prop)(C:List Nat)(t:Pl)(hS:S0 w.drew∧S w.drew)(h:∀W,S0 W→S W→t.wp P l.toArray Q S C a W)(hm:P.follows .mixedOrders=true:=by kernel_rfl)(hs:Region.noSelect l.toArray=true:=by kernel_rfl)(hQ:∀c a d v w,Q (.panic c) (Act.put a d v) w→Q (.panic c) a w:=by(intro _ _ d _ _ h;cases d<;>exact h))(hlen:t.fuel=l.length:=by exact rfl)(hp:t.ok7 l.toArray C (Array.replicate l.length false)=true:=by kernel_rfl):(Code.region id l.toArray true).wp P Q a w:=Zod S0 S C t hm hs hQ hlen hp hS h
theorem Zs{id:Nat}{l:List Oper}{a:Act}(S:World→Prop)(C:List Nat)(t:Pl)(hS:S w.drew)(h:∀W,S W→t.wp P l.toArray Q S C a W)(hm:P.follows .mixedOrders=true:=by kernel_rfl)(hs:Region.noSelect l.toArray=true:=by kernel_rfl)(hQ:∀c a d v w,Q (.panic c) (Act.put a d v) w→Q (.panic c) a w:=by(intro _ _ d _ _ h;cases d<;>exact h))(hlen:t.fuel=l.length:=by exact rfl)(hp:t.ok7 l.toArray C (Array.replicate l.length false)=true:=by kernel_rfl):(Code.region id l.toArray true).wp P Q a w:=Zt (fun _=>True) S C t ⟨trivial,hS⟩ (fun W _=>h W) hm hs hQ hlen hp
theorem Zr{id:Nat}{l:List Oper}{a:Act}(C:List Nat)(t:Pl)(h:∀W,Below w.heap.size w W→t.wp P l.toArray Q (fun w'=>Below w.heap.size w w') C a W)(hm:P.follows .mixedOrders=true:=by kernel_rfl)(hs:Region.noSelect l.toArray=true:=by kernel_rfl)(hQ:∀c a d v w,Q (.panic c) (Act.put a d v) w→Q (.panic c) a w:=by(intro _ _ d _ _ h;cases d<;>exact h))(hlen:t.fuel=l.length:=by exact rfl)(hp:t.ok7 l.toArray C (Array.replicate l.length false)=true:=by kernel_rfl):(Code.region id l.toArray true).wp P Q a w:=Zs _ C t (Zad _) h hm hs hQ hlen hp
end Go.Proofs.YtinibgklgehdpaaGreatDoor
