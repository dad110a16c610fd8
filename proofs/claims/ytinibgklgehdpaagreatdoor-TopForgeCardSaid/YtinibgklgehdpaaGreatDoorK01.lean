/- A part of what the last text stands on. -/
import Derived.Test.YtinibgklgehdpaaGreatDoorRows
import Derived.WalkKit
import Derived.ProofKit
import Derived.OpenShut
import Derived.IntWalk
import Derived.BigQuiet
import Derived.Deep.QuietTactic
import Derived.Outline
import Derived.Lib.QuietBelow
import Derived.Lib.Hide
import Derived.Deep.RegionHeld3
import Derived.Laws.OwnMore
import Derived.SizedLaws
import Derived.Deep.Slices
namespace Go.Proofs.YtinibgklgehdpaaGreatDoor
namespace Qa
end Qa
namespace Qb
end Qb
namespace Qc
end Qc
open Go.ChangeShapes Go.WideShapes Go.ChangeAt Go.RowKit Qa Qb Qc
set_option linter.all false
set_option maxHeartbeats 20000000
set_option maxRecDepth 100000
variable{P:Program}{w w' W wr:World}{a:Act}{o:Oper}{ops:Array Oper}{rest:List Oper}{Q:Exit→Act→World→Prop}{K:Act→World→Prop}{v:Value}{cur cs:Array Value}{A:Option Addr}{e t te:TypeId}{k i g off sz bs b c:Nat}{x y:Operand}{α:Type}{xs:List α}{enc:α→Value}
theorem Zap{a b:Bool}(h:a=b):Ending.returned (.bool a)=.returned (.bool b):=by rw[h]
theorem Zaj{k:IntKind}{a b:Int}(h:a=b):Ending.returned (.int k a)=.returned (.int k b):=by rw[h]
theorem Zyi{w1:World}(hb:Below W.heap.size W w1):(∀b o,b<W.heap.size→w1.cell? ⟨b,o,none⟩=W.cell? ⟨b,o,none⟩)∧(∀b o,b<W.heap.size→w1.frozen? ⟨b,o,none⟩=W.frozen? ⟨b,o,none⟩) :=
 ⟨fun b o h=>hb.cell (p:=⟨b,o,none⟩) h,fun b o h=>hb.frozen (p:=⟨b,o,none⟩) h⟩
theorem Zbs{o n:Nat}:(⟨b,o,none⟩:Addr).add n=⟨b,o+n,none⟩:=by
 unfold Addr.add;split<;>simp_all
theorem Zgz{a:Addr}(h:w.cell? a=some v)(o:Obj):(w.alloc o).cell? a=some v:=by
 rw[World.cell?_alloc_lt _ _ _ (World.block_lt_of_cell? w a h)];exact h
theorem Zad(w:World):Below w.heap.size w w.drew:=(Below.refl _ _).drew
theorem Zac(w:World)(o:Obj):Below w.heap.size w (w.alloc o):=(Below.refl _ _).alloc (Nat.le_refl _) _
abbrev View:=Addr→Option Value
def VLe(h h':View):Prop:=∀a v,h a=some v→h' a=some v
theorem VLe.refl(h:View):VLe h h:=fun _ _ e=>e
theorem VLe.trans{a b c:View}(h:VLe a b)(k:VLe b c):VLe a c:=fun x v e=>k x v (h x v e)
def View.but(h:View)(g:Option Nat):View:=fun a=>if some a.block=g then none else h a
theorem View.but_le(h:View)(g:Option Nat):VLe (h.but g) h:=fun a v e=>by
 unfold View.but at e
 split at e
 ·cases e
 ·exact e
theorem Zaa(h:Below w.heap.size w w'):VLe w.cell? w'.cell?:=fun a v e=>by
 rw[h.cell (World.block_lt_of_cell? w a e)];exact e
theorem Zpr{g:Option Nat}(hg:w.grownBy w' g):VLe (View.but w.cell? g) (View.but w'.cell? g):=fun a v e=>by
 unfold View.but at e⊢
 split at e
 ·cases e
 ·rename_i hne
  rw[if_neg hne]
  exact hg.cell e hne
def RVec(enc:α→Value)(bs:Nat)(h:View)(v:Value)(xs:List α):Prop :=
 ∃A c,v=.slice A xs.length c∧xs.length≤c∧c≤maxLen∧xs.length*bs≤140737488355328∧(A=none→c=0)∧(0<xs.length→∃b o,A=some ⟨b,o,none⟩∧∀i (hi:i<xs.length),h ⟨b,o+i,none⟩=some (enc xs[i]))
def RSl(sz:Nat)(R:View→List Value→α→Prop)(bs:Nat)(h:View)(v:Value)(xs:List α):Prop :=
 ∃A c,v=.slice A xs.length c∧xs.length≤c∧c≤maxLen∧xs.length*bs≤140737488355328∧(A=none→c=0)∧(0<xs.length→∃b o,A=some ⟨b,o,none⟩∧∀i (hi:i<xs.length),∃cs,cs.length=sz∧(∀j,j<sz→h ⟨b,o+i*sz+j,none⟩=cs[j]?)∧R h cs xs[i])
theorem RVec.mono{h h':View}(hr:RVec enc bs h v xs)(hle:VLe h h'):RVec enc bs h' v xs:=by
 obtain⟨A,c,e,h1,h2,h2',hn,h3⟩:=hr;refine⟨A,c,e,h1,h2,h2',hn,fun hp=>?_⟩;obtain⟨b,o,ea,hc⟩:=h3 hp;exact⟨b,o,ea,fun i hi=>hle _ _ (hc i hi)⟩
theorem RSl.mono{R:View→List Value→α→Prop}(hR:∀h h' cs x,R h cs x→VLe h h'→R h' cs x){h h':View}(hr:RSl sz R bs h v xs)(hle:VLe h h'):RSl sz R bs h' v xs:=by
 obtain⟨A,c,e,h1,h2,h2',hn,h3⟩:=hr;refine⟨A,c,e,h1,h2,h2',hn,fun hp=>?_⟩;obtain⟨b,o,ea,hc⟩:=h3 hp;refine⟨b,o,ea,fun i hi=>?_⟩;obtain⟨cs,hl,hcell,hx⟩:=hc i hi;refine⟨cs,hl,fun j hj=>?_,hR _ _ _ _ hx hle⟩;have h0:=hcell j hj;rw[List.getElem?_eq_getElem (by omega)]at h0⊢;exact hle _ _ h0
def encB(b:UInt8):Value:=.int .u8 b.toNat
abbrev Zao:=RVec encB 1
theorem Zau{n:Nat}(o:Obj)(h:n≤w.heap.size):n≤(w.alloc o).heap.size:=Nat.le_trans h (by simp)
theorem Zw1{n:Nat}(h:n≤reachBytes):n≤140737488355328:=Nat.le_trans h (by decide)
theorem Zbw{n:Nat}(h:n≤140737488355328):n≤maxLen:=Nat.le_trans h (by decide)
theorem Zc2(w:World)(base:Nat)(t ty e:TypeId)(i:TypeInfo)(z:Value)(size bytes:Nat)(ht:P.underlying t=some (.slice e))(hi:P.info? e=some i)(hz:i.zero=some z)(hsize:i.size=size)(hby:i.bytes=bytes)(hzs:z.cells.size=size)(hsz:0<size)(v:Value)(n:Nat)(xs:List Value)(hown:w.ownsRow base e size v n xs)(A:Option Addr)(m c:Nat)(news:List Value)(hl:news.length=m*size)(hA:A=none→m=0∧c=0)(hnews:∀ad,A=some ad→∀j u,news[j]?=some u→w.cell? (ad.add j)=some u)(h1:∀u∈news,u.oneCell'=true)(h63:n+m≤maxLen)(hbytes:(n+m)*bytes≤140737488355328)(hbase:base≤w.heap.size) :
 ∃v' w',(Builtin.append_ #[t,t] ty #[v,.slice A m c]).run P w=.ok v' w'∧w'.ownsRow base e size v' (n+m) (xs++news)∧w.grownBy w' v.ownBlock:=by
 cases A with
 |none =>
  obtain⟨rfl,rfl⟩:=hA rfl;have hn:news=[]:=List.eq_nil_of_length_eq_zero (by simpa using hl);subst hn;refine⟨v,w,run_append_owned_none (P:=P) w base t ty e i size ht hi v n xs hown,by simpa using hown,⟨rfl,rfl,rfl,Nat.le_refl _,fun _ _ _=>rfl⟩⟩
 |some ad =>
  obtain⟨v',w',h2,h3,h4,_⟩:=run_append_own (P:=P) w base t ty e i z size bytes ht hi hz hsize hby hzs hsz v n xs hown ad m c news hl (hnews ad rfl) h1 h63 hbytes hbase;exact⟨v',w',h2,h3,h4⟩
theorem Zfo(s x:Operand)(t:TypeId)(ho:o.op=.call {callee:=.builtin .append,args:=#[s,x],argTypes:=#[t,t] })(base:Nat)(e:TypeId)(i:TypeInfo)(z:Value)(size bytes:Nat)(ht:P.underlying t=some (.slice e))(hi:P.info? e=some i)(hz:i.zero=some z)(hsize:i.size=size)(hby:i.bytes=bytes)(hzs:z.cells.size=size)(hsz:0<size)(v:Value)(n:Nat)(xs:List Value)(hs:a.eval s=v)(hown:w.ownsRow base e size v n xs)(A:Option Addr)(m c:Nat)(news:List Value)(hx:a.eval x=.slice A m c)(hl:news.length=m*size)(hA:A=none→m=0∧c=0)(hnews:∀ad,A=some ad→∀j u,news[j]?=some u→w.cell? (ad.add j)=some u)(h1:∀u∈news,u.oneCell'=true)(h63:n+m≤maxLen)(hbytes:(n+m)*bytes≤140737488355328)(hbase:base≤w.heap.size)(h:∀v' w',w'.ownsRow base e size v' (n+m) (xs++news)→w.grownBy w' v.ownBlock→K (a.put o.dst v') w'):o.wp P a w K Q:=by
 obtain⟨v',w',hr,h2,h3⟩:=Zc2 (P:=P) w base t o.type e i z size bytes ht hi hz hsize hby hzs hsz v n xs hown A m c news hl hA hnews h1 h63 hbytes hbase;unfold Oper.wp execOp;simp[ho,resolve,invoke,builtin,hs,hx,hr,Result.andThen,Oper.upon];exact h _ _ h2 h3
theorem Zcv(hgd:o.guard=none)(s x:Operand)(t:TypeId)(ho:o.op=.call {callee:=.builtin .append,args:=#[s,x],argTypes:=#[t,t] })(base:Nat)(e:TypeId)(i:TypeInfo)(z:Value)(size bytes:Nat)(ht:P.underlying t=some (.slice e))(hi:P.info? e=some i)(hz:i.zero=some z)(hsize:i.size=size)(hby:i.bytes=bytes)(hzs:z.cells.size=size)(hsz:0<size)(v:Value)(n:Nat)(xs:List Value)(hs:a.eval s=v)(hown:w.ownsRow base e size v n xs)(A:Option Addr)(m c:Nat)(news:List Value)(hx:a.eval x=.slice A m c)(hl:news.length=m*size)(hA:A=none→m=0∧c=0)(hnews:∀ad,A=some ad→∀j u,news[j]?=some u→w.cell? (ad.add j)=some u)(h1:∀u∈news,u.oneCell'=true)(h63:n+m≤maxLen)(hbytes:(n+m)*bytes≤140737488355328)(hbase:base≤w.heap.size)(h:∀v' w',w'.ownsRow base e size v' (n+m) (xs++news)→w.grownBy w' v.ownBlock→wpList P ops Q rest (a.put o.dst v') w'):wpList P ops Q (o::rest) a w :=
 wpList_plain hgd fun _ hK=>Zfo s x t ho base e i z size bytes ht hi hz hsize hby hzs hsz v n xs hs hown A m c news hx hl hA hnews h1 h63 hbytes hbase fun v' w' h2 h3=>hK _ _ (h v' w' h2 h3)
theorem Zij(hgd:o.guard=none)(s x:Operand)(t:TypeId)(ho:o.op=.call {callee:=.builtin .append,args:=#[s,x],argTypes:=#[t,t] })(base:Nat)(e:TypeId)(i:TypeInfo)(z:Value)(size bytes:Nat)(ht:P.underlying t=some (.slice e))(hi:P.info? e=some i)(hz:i.zero=some z)(hsize:i.size=size)(hby:i.bytes=bytes)(hzs:z.cells.size=size)(hsz:0<size){n:Nat}{xs:List Value}(hs:a.eval s=v)(hown:wr.ownsRow base e size v n xs)(hbl:Below base W wr)(hbase:base≤wr.heap.size)(cs:List Value)(hx:a.eval x=.slice (some ⟨wr.heap.size,0,none⟩) 1 1)(hl:cs.length=size)(h1:∀u∈cs,u.oneCell'=true)(hbytes:(n+1)*bytes≤140737488355328)(h63:n+1≤140737488355328)(h:∀v' w',w'.ownsRow base e size v' (n+1) (xs++cs)→Below base W w'→wr.grownBy w' v.ownBlock→wpList P ops Q rest (a.put o.dst v') w'):wpList P ops Q (o::rest) a (wr.alloc (.cells cs.toArray e)):=by
 refine Zcv hgd s x t ho base e i z size bytes ht hi hz hsize hby hzs hsz v n xs hs (hown.alloc _) (some ⟨wr.heap.size,0,none⟩) 1 1 cs hx (by rw[hl,Nat.one_mul]) (fun h=>by cases h) (fun ad had j u hu=>?_) h1 (Zbw h63) hbytes (Zau _ hbase) (fun v' w' ho hg=>?_)
 ·injection had with had;subst had;rw[Zbs,Nat.zero_add,cell_of_row _ _ j cs.toArray e (0,0) (heap_alloc_new wr _)];simpa using hu
 ·refine h v' w' ho ((hbl.alloc hbase _).grown hg (Zau _ hbase) (fun g hg=>(hown.lt g hg).1)) ?_;have g1:=World.grownBy_alloc wr (.cells cs.toArray e) v.ownBlock;exact⟨hg.os.trans g1.os,hg.tape.trans g1.tape,hg.output.trans g1.output,Nat.le_trans g1.size hg.size,fun k hk hne=>(hg.block k (Nat.lt_of_lt_of_le hk g1.size) hne).trans (g1.block k hk hne)⟩
structure OwnVec {α:Type} (enc:α→Value) (e:TypeId) (w:World) (base:Nat) (v:Value) (xs:List α):Prop where
 own:w.ownsRow base e 1 v xs.length (xs.map enc)
theorem OwnVec.nil(enc:α→Value)(e:TypeId)(w:World)(base:Nat):OwnVec enc e w base (.slice none 0 0) []:=⟨World.ownsRow_nil _ _ _ _⟩
theorem OwnVec.kept{base:Nat}(h:OwnVec enc e w base v xs)(hb:Below w.heap.size w w'):OwnVec enc e w' base v xs :=
 ⟨h.own.kept (row:=none) ⟨hb.os,hb.tape,hb.output,hb.size,fun k hk _=>hb.block k hk⟩ (by cases v.ownBlock<;>simp)⟩
theorem OwnVec.reads{base:Nat}(h:OwnVec enc e w base v xs)(hb:xs.length*bs≤140737488355328):RVec enc bs w.cell? v xs:=by
 obtain⟨h⟩:=h
 rcases id h.2 with ⟨rfl,h0⟩|⟨g,cap,cur,rfl,h2,h3,h4,h5,h6,h7⟩
 ·have:xs=[]:=List.eq_nil_of_length_eq_zero h0;subst this;exact⟨none,0,rfl,Nat.le_refl _,Nat.zero_le _,by simp,fun _=>rfl,fun h=>by simp at h⟩
 ·refine⟨_,cap,rfl,h4,h5,hb,(fun h=>by cases h),fun hp=>⟨g,0,rfl,fun i hi=>?_⟩⟩;have:=h.cells (g:=g) rfl i (enc xs[i]) (by simp[hi]);rw[Zbs]at this;exact this
theorem RVec.src{n:Nat}(h:RVec enc bs w.cell? (.slice A n c) xs) :
 n=xs.length∧n≤maxLen∧n*bs≤140737488355328∧(xs.map enc).length=n*1∧(A=none→n=0∧c=0)∧∀ad,A=some ad→∀j u,(xs.map enc)[j]?=some u→w.cell? (ad.add j)=some u:=by
 obtain⟨A',c',e,h1,h2,h3,h4,h5⟩:=h;injection e with e1 e2 e3;subst e1 e2 e3;refine⟨rfl,by omega,h3,by simp,fun hA=>⟨?_,h4 hA⟩,fun ad hA j u hu=>?_⟩
 ·rcases Nat.eq_zero_or_pos xs.length with h|h
  ·exact h
  ·obtain⟨b,o,ea,_⟩:=h5 h;rw[hA]at ea;cases ea
 ·have hj:j<xs.length:=by
   have:=(List.getElem?_eq_some_iff.1 hu).1;simpa using this
  obtain⟨b,o,ea,hc⟩:=h5 (by omega);rw[hA]at ea;injection ea with ea;subst ea;rw[Zbs,hc j hj];simpa[hj]using hu
def Zjx(P:Program)(t e:TypeId)(bytes:Nat):Prop:=P.underlying t=some (.slice e)∧∃i z,P.info? e=some i∧i.zero=some z∧i.size=1∧i.bytes=bytes∧z.cells.size=1
theorem Zzp{bytes:Nat}{z:Value}(ht:P.underlying t=some (.slice e))(h:(P.info? e).map (fun i=>(i.zero,i.size,i.bytes))=some (some z,1,bytes))(hz:z.cells.size=1):Zjx P t e bytes:=by
 obtain⟨i0,hi,hz0,hz1,hz2⟩:=info_parts h;exact⟨ht,i0,z,hi,hz0,hz1,hz2,hz⟩
theorem Zhr{bytes base n:Nat}(x:α)(hE:Zjx P t e bytes)(h1:∀x:α,(enc x).oneCell'=true)(s y:Operand)(hgd:o.guard=none)(ho:o.op=.call {callee:=.builtin .append,args:=#[s,y],argTypes:=#[t,t] })(hs:a.eval s=v)(hown:OwnVec enc e wr base v xs)(hbl:Below base W wr)(hbase:base≤wr.heap.size)(hx:a.eval y=.slice (some ⟨wr.heap.size,0,none⟩) 1 1)(hc:n≤140737488355328)(hn:(xs.length+1)*bytes≤n)(hn':xs.length+1≤n)(h:∀v' w',OwnVec enc e w' base v' (xs++[x])→Below base W w'→wr.grownBy w' v.ownBlock→wpList P ops Q rest (a.put o.dst v') w'):wpList P ops Q (o::rest) a (wr.alloc (.cells #[enc x] e)):=by
 obtain⟨ht,i,z,hi,hz0,hz1,hz2,hzs⟩:=hE;refine Zij hgd s y t ho base e i z 1 bytes ht hi hz0 hz1 hz2 hzs (by decide) hs hown.own hbl hbase [enc x] hx rfl (fun u hu=>by rw[List.mem_singleton.1 hu];exact h1 x) (Nat.le_trans hn hc) (Nat.le_trans hn' hc) (fun v' w' ho hb hg=>h v' w' ⟨?_⟩ hb hg);simpa using ho
theorem Za5{bytes base n:Nat}{vy:Value}{ys:List α}(hE:Zjx P t e bytes)(h1:∀x:α,(enc x).oneCell'=true)(s y:Operand)(hgd:o.guard=none)(ho:o.op=.call {callee:=.builtin .append,args:=#[s,y],argTypes:=#[t,t] })(hs:a.eval s=v)(hown:OwnVec enc e wr base v xs)(hbl:Below base W wr)(hbase:base≤wr.heap.size)(hx:a.eval y=vy)(hy:RVec enc bytes wr.cell? vy ys)(hc:n≤140737488355328)(hn:(xs.length+ys.length)*bytes≤n)(hn':xs.length+ys.length≤n)(h:∀v' w',OwnVec enc e w' base v' (xs++ys)→Below base W w'→wr.grownBy w' v.ownBlock→wpList P ops Q rest (a.put o.dst v') w'):wpList P ops Q (o::rest) a wr:=by
 obtain⟨ht,i,z,hi,hz0,hz1,hz2,hzs⟩:=hE;obtain⟨A,c,rfl,_⟩:=id hy;obtain⟨_,_,_,hl,hA,hcell⟩:=hy.src;refine Zcv hgd s y t ho base e i z 1 bytes ht hi hz0 hz1 hz2 hzs (by decide) v xs.length _ hs hown.own A ys.length c (ys.map enc) hx hl hA hcell (fun u hu=>by obtain⟨x,_,rfl⟩:=List.mem_map.1 hu;exact h1 x) (Zbw (Nat.le_trans hn' hc)) (Nat.le_trans hn hc) hbase (fun v' w' ho hg=>h v' w' ⟨?_⟩ (hbl.grown hg hbase (fun g hg=>(hown.own.lt g hg).1)) hg);simpa using ho
theorem RVec.nil(enc:α→Value)(bs:Nat)(h:View):RVec enc bs h (.slice none 0 0) []:=⟨none,0,rfl,Nat.le_refl _,Nat.zero_le _,by simp,fun _=>rfl,fun h=>by simp at h⟩
theorem OwnVec.form(h:OwnVec enc e w b v xs):∃A c,v=.slice A xs.length c:=by
 obtain⟨h1,h2⟩:=h.own
 rcases h2 with ⟨rfl,h2⟩|⟨g,cap,cur,rfl,_⟩
 ·exact⟨none,0,by rw[h2]⟩
 ·exact⟨_,_,rfl⟩
theorem OwnVec.base{b':Nat}(h:OwnVec enc e w b v xs)(hb:b'≤b):OwnVec enc e w b' v xs:=by
 obtain⟨h1,h2⟩:=h.own;refine⟨h1,?_⟩
 rcases h2 with h2|⟨g,cap,cur,h3,h4,h5⟩
 ·exact .inl h2
 ·exact .inr ⟨g,cap,cur,h3,Nat.le_trans hb h4,h5⟩
theorem OwnVec.grown(h:OwnVec enc e w b v xs)(hg:w.grownBy w' (some g))(hne:g<b):OwnVec enc e w' b v xs :=
 ⟨h.own.kept hg (.inr fun e=>by have:=(h.own.lt g e).1;omega)⟩
theorem OwnVec.alloc(h:OwnVec enc e w b v xs)(o:Obj):OwnVec enc e (w.alloc o) b v xs:=h.kept ((Below.refl _ _).alloc (Nat.le_refl _) _)
theorem OwnVec.setCell(h:OwnVec enc e w b v xs){p:Addr}(hp:p.block<b)(u:Value):OwnVec enc e (w.setCell p u) b v xs :=
 ⟨ownsRow_setCell_below h.own hp u⟩
theorem Zdo{p:Nat→Bool}{n:Nat}(h:∀j,j<n→p j=false):(List.range n).any p=false:=by
 rw[List.any_eq_false];intro x hx;simp[h x (List.mem_range.1 hx)]
theorem Zb7{p:Nat→Bool}{n:Nat}(hk:k<n)(h:p k=true):(List.range n).any p=true:=by
 rw[List.any_eq_true];exact⟨k,List.mem_range.2 hk,h⟩
theorem upto_succ{p:Nat→Bool}(h:∀j,j<k→p j=false)(hk:p k=false):∀j,j<k+1→p j=false:=fun j hj=>by
 rcases Nat.lt_or_ge j k with h1|h1
 ·exact h j h1
 ·have:j=k:=by omega
  subst this;exact hk
theorem Zf3{l:List α}{p:α→Bool}(h:∀j (hj:j<l.length),p l[j]=false):l.any p=false:=by
 rw[List.any_eq_false];intro x hx;obtain⟨i,hi,rfl⟩:=List.getElem_of_mem hx;simp[h i hi]
theorem Zgn{l:List α}{p:α→Bool}(hk:k<l.length)(h:p l[k]=true):l.any p=true:=by
 rw[List.any_eq_true];exact⟨l[k],List.getElem_mem hk,h⟩
theorem RVec.take{h:View}{n:Nat}(hr:RVec enc bs h (.slice A n c) xs)(hk:k≤xs.length):RVec enc bs h (.slice A k c) (xs.take k):=by
 obtain⟨A',c',e,h1,h2,h3,h4,h5⟩:=hr;injection e with e1 e2 e3;subst e1 e2 e3;have hl:(xs.take k).length=k:=by simp;omega
 refine⟨A,c,by rw[hl],by omega,h2,?_,h4,fun hp=>?_⟩
 ·rw[hl];exact Nat.le_trans (Nat.mul_le_mul_right _ hk) h3
 ·obtain⟨b,o,ea,hc⟩:=h5 (by omega);refine⟨b,o,ea,fun i hi=>?_⟩;rw[hl]at hi;rw[hc i (by omega),List.getElem_take]
theorem Zhu{H:Type}{enc:TypeId×Value→H}{P:Program}(hl:laidOutB P=true){W W':World}(hb:Below W.heap.size W W'){sp:Nat→Bool} :
 ∀(ts:List TypeId) (vs:List Value) (ds:List (DataW H)) (ps:List MemPlace),(∀t∈ts,P.readableRec t=true∧t<P.types.size) →
  (∀x∈ps,x.block<W.heap.size)→(∀x∈ps,sp x.block=true)→DataW.TrodAll enc P W 0 (fun _=>true) true ts vs ds ps→DataW.TrodAll enc P W' 0 sp true ts vs ds ps
 |[],[],[],ps,_,_,_,h=>h
 |t::ts,v::vs,d::ds,ps,hr,hlt,hs,h=>by
  obtain⟨p,q,h1,h2,rfl⟩:=h
  refine⟨p,q,WideElems.Trod_stays hl (hr t (by simp)).1 (hr t (by simp)).2 h1 (fun x hx=>hb.same (hlt x (by simp[hx]))) (fun x hx=>hs x (by simp[hx])),?_,rfl⟩
  exact Zhu hl hb ts vs ds q (fun t ht=>hr t (by simp[ht])) (fun x hx=>hlt x (by simp[hx])) (fun x hx=>hs x (by simp[hx])) h2
 |[],[],_::_,_,_,_,_,h=>h.elim
 |[],_::_,_,_,_,_,_,h=>h.elim
 |_::_,[],_,_,_,_,_,h=>h.elim
 |_::_,_::_,[],_,_,_,_,h=>h.elim
theorem Zva{H:Type}{enc:TypeId×Value→H}(hl:laidOutB P=true){f:Func}{s:ChangeSpec}{args:Array Value}{ds gs:List (DataW H)}{before:List MemPlace}{b:TypeId}(hres:f.resultTypes=#[b])(hbool:P.underlying b=some .bool)(hvars:s.vars=[])(hparams:∀t∈f.params.toList,P.readableRec t=true∧t<P.types.size)(hfn:s.fn H (ds++gs)={ results:=[.lit (.bool true)],args:=ds })(hW:DataW.Whole enc P f.params.toList s.vars false W args.toList ds gs before){e:Ending}{W':World}(he:e=.returned (.bool true))(hb:Below W.heap.size W W') :
 ∃v,e=.returned v∧s.post enc P f false true false false W args v W':=by
 have hlt:∀x∈before,x.block<W.heap.size:=fun x hx=>by simpa using hW.lt x hx
 have hW':=hW
 obtain⟨p,q,hA,hV,rfl,hfz,hnd⟩:=hW
 have hq:gs=[]∧q=[]:=by
  rw[hvars]at hV
  cases gs with
  |nil=>exact⟨rfl,hV⟩
  |cons g gs=>exact hV.elim
 obtain⟨rfl,rfl⟩:=hq
 simp only[List.append_nil]at hW' hlt hfz
 refine⟨_,he,ds,[],p,[],p,[],hW',?_,?_,?_,?_,fun h=>by cases h⟩
 ·rw[hres,hfn]
  exact trodAll_mk1 (shut_bool hbool true)
 ·rw[hfn]
  exact Zhu hl hb _ _ _ _ hparams hlt (fun x hx=>by simpa using hlt x hx) hA
 ·rw[hfn,hvars]
  rfl
 ·exact hb.frame _
def Zf4(P:Program)(t:TypeId)(R:View→List Value→α→Prop):Prop :=
 ∀(H:Type) (enc:TypeId×Value→H) (w:World) (fuel:Nat) (cs:List Value) (x:DataW H×List MemPlace),
  DataW.trod enc P w 0 (fun _=>true) true fuel t cs=some x→(∀n∈x.1.weights P t,n≤reachBytes)→∃a:α,R w.cell? cs a
theorem Zo0{k:IntKind}(ht:P.underlying t=some (.int k)):Zf4 P t (fun _ cs (n:Int)=>cs=[.int k n]∧(Lit.int k n).wf=true):=by
 intro H enc w fuel cs x h _;cases fuel with
 |zero=>simp[DataW.trod]at h
 |succ n =>
  unfold DataW.trod at h;rw[ht]at h
  split at h<;>simp_all
theorem Zuz(ht:P.underlying t=some .string):Zf4 P t (fun _ cs (s:ByteArray)=>cs=[.string s]∧s.size≤reachBytes):=by
 intro H enc w fuel cs x h hw;cases fuel with
 |zero=>simp[DataW.trod]at h
 |succ n =>
  unfold DataW.trod at h;rw[ht]at h
  split at h<;>simp_all
  obtain⟨h1,rfl⟩:=h;have:=hw _ (by simp only[DataW.weights];exact List.mem_singleton.2 rfl);simpa using this
theorem Zl5{H:Type}{d:DataW H}{l:List (DataW H)}(hd:d∈l):∀n∈d.weights P e,n∈DataW.weightsAll P e l:=by
 induction l with
 |nil=>cases hd
 |cons x r ih =>
  intro n hn;simp only[DataW.weightsAll,List.mem_append]
  rcases List.mem_cons.1 hd with rfl|h
  ·exact .inl hn
  ·exact .inr (ih h n hn)
theorem Zpl{a:Addr}(h:w.cell? a=some v):a=⟨a.block,a.off,none⟩:=by
 obtain⟨b,o,s⟩:=a;cases s with
 |none=>rfl
 |some s =>
  simp[World.cell?]at h
  split at h<;>simp at h
theorem Zlj{α:Type}{p:Nat→α→Prop}:∀n,(∀i,i<n→∃a,p i a)→∃l:List α,l.length=n∧∀i (hi:i<l.length),p i l[i]
 |0,_=>⟨[],rfl,fun i hi=>by simp at hi⟩
 |n+1,h=>by
  obtain⟨l,hl,hp⟩:=Zlj n (fun i hi=>h i (by omega))
  obtain⟨a,ha⟩:=h n (by omega)
  refine⟨l++[a],by simp[hl],fun i hi=>?_⟩
  by_cases hin:i<l.length
  ·rw[List.getElem_append_left hin];exact hp i hin
  ·have:i=n:=by simp at hi;omega
   subst this
   rw[List.getElem_append_right (by omega)]
   simpa using ha
theorem Zxa{R:View→List Value→α→Prop}(ht:P.underlying t=some (.slice e))(hc:P.cellsOf e=sz)(hsz:0<sz)(hbs:P.bytesOf e=bs)(he:Zf4 P e R) :
 Zf4 P t (fun h cs (xs:List α)=>∃v,cs=[v]∧RSl sz R bs h v xs):=by
 intro H enc w fuel cs x h hw
 rcases Deep.open_slice ht h with ⟨rfl,rfl⟩|⟨a,len,cap,m,n,D,Pl,rfl,hb,hl,hm,hmm,hx,hi⟩
 ·exact⟨[],_,rfl,none,0,rfl,Nat.le_refl _,Nat.zero_le _,by simp,fun _=>rfl,fun h=>by simp at h⟩
 ·simp only[if_true]at hmm;subst hmm;subst hx;have hrow:((List.range len).map D).length+((List.range (m-len)).map fun j=>D (len+j)).length=m:=by simp;omega
  have hbound:m*bs≤140737488355328:=by
   have:=hw _ (by simp only[DataW.weights,ht];exact List.mem_cons_self);rw[hrow,hbs]at this;unfold reachBytes at this;omega
  have hel:∀i,i<len→∃a':α,∃cs',w.cells? 0 (a.add (i*sz)) sz=some cs'∧R w.cell? cs' a':=by
   intro i hil;obtain⟨cs',h1,h2⟩:=hi i (by omega);rw[hc]at h1
   obtain⟨a',ha'⟩:=he H enc w n cs' _ h2 (fun k hk=>hw k (by
    simp only[DataW.weights,ht];refine List.mem_cons_of_mem _ (List.mem_append_left _ (Zl5 (d:=D i) ?_ k hk))
    exact List.mem_map.2 ⟨i,List.mem_range.2 hil,rfl⟩))
   exact⟨a',cs',h1,ha'⟩
  obtain⟨xs,hlen,hp⟩:=Zlj len hel;subst hlen;refine⟨xs,_,rfl,some a,m,rfl,hl,hm,Nat.le_trans (Nat.mul_le_mul_right _ hl) hbound,(fun h=>by cases h),fun hpos=>?_⟩;obtain⟨cs0,h0,_⟩:=hp 0 hpos
  have ha0:a=⟨a.block,a.off,none⟩:=by
   obtain⟨_,hl0,hat⟩:=World.cells?_some h0;have:=hat 0 hsz;rw[List.getElem?_eq_getElem (by omega)]at this;simp[Addr.add]at this;exact Zpl this
  refine⟨a.block,a.off,by rw[←ha0],fun i hi=>?_⟩;obtain⟨cs',h1,h2⟩:=hp i hi;obtain⟨_,hl1,hat⟩:=World.cells?_some h1;refine⟨cs',hl1,fun j hj=>?_,h2⟩;have:=hat j hj;rw[ha0,Zbs,Zbs]at this;exact this
theorem Zo1{fs:Array Field}(ht:P.underlying t=some (.struct fs)){H:Type}{enc:TypeId×Value→H}{fuel:Nat}{cs:List Value}{x:DataW H×List MemPlace}(h:DataW.trod enc P w 0 (fun _=>true) true fuel t cs=some x)(hw:∀n∈x.1.weights P t,n≤reachBytes) :
 cs.length=P.cellsOf t∧∀(i ty off sz:Nat) {α:Type} {R:View→List Value→α→Prop},((fs[i]?).map fun f=>(f.type,f.offset))=some (ty,off)→P.cellsOf ty=sz→Zf4 P ty R→∃a,R w.cell? ((cs.drop off).take sz) a:=by
 obtain⟨xs,n,_,rfl,hlen,hxl,hf⟩:=DataW.trod_struct ht h;refine⟨hlen,fun i ty off sz α R hif' hsz hR=>?_⟩;obtain⟨f,hif,hfe⟩:=Option.map_eq_some_iff.1 hif';injection hfe with e1 e2;subst e1 e2 hsz;have hi:i<xs.length:=by rw[hxl];exact(Array.getElem?_eq_some_iff.1 hif).1
 have h1:=hf i f hif;rw[List.getElem?_eq_getElem hi]at h1;refine hR H enc w n _ _ h1 (fun k hk=>hw k ?_);simp only[DataW.weights,ht];refine DataW.weights_mem_each (j:=i) (t:=f.type) (d:=xs[i].1) ?_ ?_ k hk
 ·simp[hif]
 ·simp[hi]
section
variable {P:Program} {ops:Array Oper} {Q:Exit→Act→World→Prop} {S:World→Prop}
def Zmq(ops:Array Oper):List (Nat×Bool)→Array Bool→Bool
 |[],listed=>(Region.ready .any ops listed).isEmpty
 |(i,q)::rest,listed=>(if q then Region.free .any ops listed i&&(Region.ready .any ops listed).contains i else Region.ready .any ops listed==[i])&&Zmq ops rest (listed.setIfInBounds i true)
def Zga(P:Program)(ops:Array Oper)(Q:Exit→Act→World→Prop)(S:World→Prop):List (Nat×Bool)→Act→World→Prop
 |[],a,w=>Q .normal a w
 |(i,true)::rest,a,w=>∃o v,ops[i]?=some o∧YieldsIf P ops S o v a∧Zga P ops Q S rest (a.put o.dst v) w
 |(i,false)::rest,a,w=>wpOp P ops Q i (fun a' w'=>S w'∧(S w'→Zga P ops Q S rest a' w')) a w
theorem Zf9(hs:Region.noSelect ops=true)(hQ:∀c a d v w,Q (.panic c) (Act.put a d v) w→Q (.panic c) a w) :
 ∀(π:List (Nat×Bool)) (listed:Array Bool) (a:Act) (w:World),Zmq ops π listed=true→S w→Zga P ops Q S π a w→wpAnyH P .any ops Q S π.length listed a w
 |[],listed,a,w,hp,_,h=>⟨by simpa[Zmq]using hp,h⟩
 |(i,true)::rest,listed,a,w,hp,hS,h=>by
  obtain⟨o,v,ho,hy,hr⟩:=h
  simp only[Zmq,if_true,Bool.and_eq_true]at hp
  exact wpAnyH_take ho hs hp.1.1 hp.1.2 (fun c a w=>hQ c a o.dst v w) hy hS (Zf9 hs hQ rest _ _ w hp.2 hS hr)
 |(i,false)::rest,listed,a,w,hp,hS,h=>by
  simp only[Zmq,Bool.false_eq_true,if_false,Bool.and_eq_true,beq_iff_eq]at hp
  refine wpAnyH_all hp.1 (by simp) (fun j hj=>?_)
  rw[List.mem_singleton.1 hj]
  exact wpOp_mono (fun a' w' hK=>⟨hK.1,Zf9 hs hQ rest _ a' w' hp.2 hK.1 (hK.2 hK.1)⟩) h
theorem Zcg{id:Nat}{l:List Oper}(S:World→Prop)(π:List (Nat×Bool))(hm:P.follows .mixedOrders=true)(hs:Region.noSelect l.toArray=true)(hQ:∀c a d v w,Q (.panic c) (Act.put a d v) w→Q (.panic c) a w)(hlen:π.length=l.length)(hπ:Zmq l.toArray π (Array.replicate l.length false)=true)(hS:S w.drew)(h:∀W,S W→Zga P l.toArray Q S π a W):(Code.region id l.toArray true).wp P Q a w:=by
 refine wp_region_held hm (S:=S) ?_;have:=Zf9 (P:=P) (S:=S) hs hQ π (Array.replicate l.length false) a w.drew hπ hS (h _ hS);rw[hlen]at this;simpa using this
theorem Zen(h:Q .normal a w):Zga P ops Q S [] a w:=h
theorem Zbc{rest:List (Nat×Bool)}(ho:ops[i]?=some o)(hw:Region.wanted o (yielded ops a.tmps)=true)(h:∃v,(∀w,S w→(execOp a.eval o).run P w=.ok (.value v) w)∧Zga P ops Q S rest (a.put o.dst v) w):Zga P ops Q S ((i,true)::rest) a w :=
 let ⟨v,hv,h⟩:=h
 ⟨o,v,ho,.inl ⟨hw,hv⟩,h⟩
theorem Zbh{q:Bool}{rest:List (Nat×Bool)}(hS:S w)(ho:ops[i]?=some o)(hw:Region.wanted o (yielded ops a.tmps)=false)(h:Zga P ops Q S rest (a.put o.dst undef) w):Zga P ops Q S ((i,q)::rest) a w:=by
 cases q with
 |true=>exact⟨o,undef,ho,.inr ⟨hw,rfl⟩,h⟩
 |false =>
  show wpOp _ _ _ _ _ _ _;unfold wpOp;simp only[ho,hw];exact⟨hS,fun _=>h⟩
theorem Zd0{rest:List (Nat×Bool)}(ho:ops[i]?=some o)(hw:Region.wanted o (yielded ops a.tmps)=true)(h:∀K:Act→World→Prop,Shut (∀a' w',S w'→(S w'→Zga P ops Q S rest a' w')→K a' w')→Oper.wp P o a w K Q):Zga P ops Q S ((i,false)::rest) a w:=by
 show wpOp _ _ _ _ _ _ _;unfold wpOp;simp only[ho,hw,if_true];exact .inl (h _ (fun a' w' h1 h2=>⟨h1,h2⟩))
end
theorem sy:(∀{α:Type} {xs:List α} {i:Nat} (h:i<xs.toArray.size),xs.toArray[i]'h=xs[i]'(by simpa using h))∧(∀{α:Type} {a:α} {l:List α} (h:0<(a::l).length),(a::l)[0]'h=a)∧(∀{α:Type} {a:α} {l:List α} {i:Nat} (h:i+1<(a::l).length),(a::l)[i+1]'h=l[i]'(by simpa using h)) :=
 ⟨fun h=>by simp,fun h=>rfl,fun h=>rfl⟩
theorem sx:(∀{α:Type} {xs:List α} {i:Nat} (h:i<xs.toArray.size),xs.toArray[i]'h=xs[i]'(by simpa using h))∧(∀{α:Type} {a:α} {l:List α} (h:0<(a::l).length),(a::l)[0]'h=a)∧(∀{α:Type} {a:α} {l:List α} {i:Nat} (h:i+1<(a::l).length),(a::l)[i+1]'h=l[i]'(by simpa using h))∧(∀{α:Type} (l:List α) (i:Nat) (a:α),l.toArray.setIfInBounds i a=(l.set i a).toArray)∧(∀{α:Type} (a b:α) (l:List α),(a::l).set 0 b=b::l)∧(∀{α:Type} (a b:α) (l:List α) (i:Nat),(a::l).set (i+1) b=a::l.set i b)∧(∀(a:Act) (d:Tmp) (v:Value),a.put (some d) v={ a with tmps:=a.tmps.setIfInBounds d v })∧(∀(a:Act) (v:Value),a.put none v=a) :=
 ⟨fun h=>by simp,fun h=>rfl,fun h=>rfl,fun _ _ _=>by simp,fun _ _ _=>rfl,fun _ _ _ _=>rfl,fun _ _ _=>rfl,fun _ _=>rfl⟩
def Blk(w:World)(g:Nat)(t:TypeId)(cs:Array Value):Prop:=w.heap[g]?=some (.cells cs t (0,0))
section
variable {w w':World} {g:Nat} {t:TypeId} {cs:Array Value}
theorem Blk.lt(h:Blk w g t cs):g<w.heap.size:=(Array.getElem?_eq_some_iff.1 h).1
theorem Blk.cell(h:Blk w g t cs)(i:Nat):w.cell? ⟨g,i,none⟩=cs[i]?:=cell_of_row w g i cs t (0,0) h
theorem Blk.frozen(h:Blk w g t cs)(i:Nat):w.frozen? ⟨g,i,none⟩=false:=by
 unfold Blk at h;simp[World.frozen?,h]
theorem Blk.new(w:World)(t:TypeId)(cs:Array Value):Blk (w.alloc (.cells cs t)) w.heap.size t cs:=heap_alloc_new w _
theorem Blk.alloc(h:Blk w g t cs)(o:Obj):Blk (w.alloc o) g t cs:=(Below.heap_alloc w o g h.lt).trans h
theorem Blk.drew(h:Blk w g t cs):Blk w.drew g t cs:=h
theorem Blk.below{B:Nat}(h:Blk w g t cs)(hb:Below B w w')(hg:g<B):Blk w' g t cs:=(hb.block g hg).trans h
theorem Blk.kept(h:Blk w g t cs)(hb:Below w.heap.size w w'):Blk w' g t cs:=h.below hb h.lt
theorem Blk.grown{row:Option Nat}(h:Blk w g t cs)(hb:w.grownBy w' row)(hg:some g≠row):Blk w' g t cs:=(hb.block g h.lt hg).trans h
end
theorem Zjj(w:World)(r:Option Nat):w.grownBy w r:=⟨rfl,rfl,rfl,Nat.le_refl _,fun _ _ _=>rfl⟩
theorem Zcd(w:World)(r:Option Nat):w.grownBy w.drew r:=⟨rfl,rfl,rfl,Nat.le_refl _,fun _ _ _=>rfl⟩
theorem Zaf{a b c:World}{r:Option Nat}(h:a.grownBy b r)(k:b.grownBy c r):a.grownBy c r :=
 ⟨k.os.trans h.os,k.tape.trans h.tape,k.output.trans h.output,Nat.le_trans h.size k.size,fun i hi hne=>(k.block i (Nat.lt_of_lt_of_le hi h.size) hne).trans (h.block i hi hne)⟩
theorem Zak{a b:World}(r:Option Nat)(h:Below a.heap.size a b):a.grownBy b r:=⟨h.os,h.tape,h.output,h.size,fun i hi _=>h.block i hi⟩
theorem Zab{a b:World}{B:Nat}{r:Option Nat}(h:Below B W a)(hB:B≤a.heap.size)(hg:a.grownBy b r)(hr:∀k,r=some k→B≤k):Below B W b:=h.grown hg hB hr
theorem Zbn(hg:w.grownBy w' (some g)):VLe (View.but w.cell? (some g)) w'.cell?:=(Zpr hg).trans (View.but_le _ _)
theorem RVec.below_but(hr:RVec enc bs w.cell? v xs)(hb:Below w.heap.size w W)(hg:w.heap.size≤g):RVec enc bs (View.but W.cell? (some g)) v xs:=by
 refine hr.mono fun a u hu=>?_
 have hlt:=World.block_lt_of_cell? w a hu;unfold View.but;rw[if_neg (by intro e;injection e with e;omega)];exact Zaa hb _ _ hu
theorem Za6(w:World)(c1 c2:Array Value)(t1 t2:TypeId)(R:World→Prop)(h:∀W,Blk W w.heap.size t1 c1→Blk W (w.heap.size+1) t2 c2→W.heap.size=w.heap.size+2→Below w.heap.size w W→R W):R ((w.alloc (.cells c1 t1)).alloc (.cells c2 t2)):=by
 refine h _ ((Blk.new w t1 c1).alloc _) ?_ (by simp) (((Below.refl _ _).alloc (Nat.le_refl _) _).alloc (Zau _ (Nat.le_refl _)) _);have:=Blk.new (w.alloc (.cells c1 t1)) t2 c2;simpa using this
theorem Za7(w:World)(c1:Array Value)(t1:TypeId)(R:World→Prop)(h:∀W,Blk W w.heap.size t1 c1→W.heap.size=w.heap.size+1→Below w.heap.size w W→R W):R (w.alloc (.cells c1 t1)) :=
 h _ (Blk.new w t1 c1) (by simp) (Zac _ _)
theorem Znk{o n:Nat}(hi:(P.info? t).map (·.size)=some n)(hn:v.cells.size=n)(hb:Blk w g te cur)(hfit:o+n≤cur.size)(h1:∀u∈v.cells.toList,u.oneCell'=true) :
 (Instr.storeAt t (.pointer (some ⟨g,o,none⟩)) v).run P w=.ok () (w.setRow g (cur.toList.take o++v.cells.toList++cur.toList.drop (o+n)).toArray):=by
 obtain⟨i,hi',rfl⟩:=Option.map_eq_some_iff.1 hi;have hs:=run_storeCells_at P g o te v.cells.toList 0 cur w hb (by rw[Array.length_toList];omega) h1;simp only[Nat.add_zero,Array.length_toList,hn]at hs;simp[Instr.storeAt,Instr.sureAddr,storeVar,sizeOf,typeInfo,hi',hn,hs]
theorem Zlq(hb:Blk w g te cur)(new:Array Value):Blk (w.setRow g new) g te new∧w.grownBy (w.setRow g new) (some g) :=
 ⟨setRow_heap w g cur new te (0,0) hb,rfl,rfl,rfl,by simp[World.setRow],fun k _ hk=>setRow_other w g k new (fun e=>hk (by rw[e]))⟩
theorem Zav{n:Nat}(ho:o.op=.store t x y)(hx:a.eval x=.pointer (some ⟨g,off,none⟩))(hy:a.eval y=v)(hi:(P.info? t).map (·.size)=some n)(hn:v.cells.size=n)(hb:Blk w g te cs)(hfit:off+n≤cs.size)(h1:(v.cells.toList.all fun u=>u.oneCell')=true)(h:∀w',Blk w' g te (cs.toList.take off++(v.cells.toList++cs.toList.drop (off+n))).toArray→w.grownBy w' (some g)→K (a.put o.dst undef) w'):o.wp P a w K Q:=by
 have hr:=Znk (P:=P) hi hn hb hfit (fun u hu=>List.all_eq_true.1 h1 u hu)
 obtain⟨h2,h3⟩:=Zlq hb (cs.toList.take off++(v.cells.toList++cs.toList.drop (off+n))).toArray
 unfold Oper.wp execOp
 simp[ho,hx,hy,hr,Result.andThen,Oper.upon]
 exact h _ h2 h3
theorem Zc0{n:Nat}{new:Array Value}(ho:o.op=.store t x y)(hx:a.eval x=.pointer (some ⟨g,0,none⟩))(hy:a.eval y=.agg new)(hi:(P.info? t).map (·.size)=some n)(hn:new.size=n)(hb:Blk w g te cs)(hcs:cs.size=n)(h1:(new.toList.all fun u=>u.oneCell')=true)(h:∀w',Blk w' g te new→w.grownBy w' (some g)→K (a.put o.dst undef) w'):o.wp P a w K Q:=by
 refine Zav ho hx hy hi hn hb (by omega) h1 (fun w' hb' hg=>h w' ?_ hg)
 have e:(cs.toList.take 0++((Value.agg new).cells.toList++cs.toList.drop (0+n))).toArray=new:=by
  rw[List.drop_of_length_le (by simp[hcs])]
  simp[Value.cells]
 rwa[e]at hb'
theorem Zdc{o n:Nat}(hagg:(isAgg t).run P w=.ok true w)(hi:(P.info? t).map (·.size)=some n)(hb:Blk w g te cur)(hfit:o+n≤cur.size) :
 (loadVar t ⟨g,o,none⟩).run P w=.ok (.agg ((cur.toList.drop o).take n).toArray) w:=by
 obtain⟨i,hi',rfl⟩:=Option.map_eq_some_iff.1 hi;have hl:((cur.toList.drop o).take i.size).length=i.size:=by simp;omega
 have:=run_loadCells_list (P:=P) w ⟨g,o,none⟩ ((cur.toList.drop o).take i.size) (fun j v hj=>by
  rw[Zbs,hb.cell];rw[List.getElem?_take]at hj;split at hj
  ·simpa using hj
  ·cases hj)
 rw[hl]at this;simp[loadVar,hagg,sizeOf,typeInfo,hi',this]
theorem Zay{fn:Func}{p:Tmp}{n:Nat}{tmps:Array Value}(h:fn.results=#[.cell p t])(hp:tmps.getD p undef=.pointer (some ⟨g,0,none⟩))(hagg:(isAgg t).run P w=.ok true w)(hi:(P.info? t).map (·.size)=some n)(hb:Blk w g te cur)(hn:cur.size=n) :
 (results fn tmps).run P w=.ok (.agg cur) w:=by
 have:=Zdc (P:=P) hagg hi hb (o:=0) (by omega);rw[List.drop_zero,List.take_of_length_le (by simp[hn])]at this;simp only[results,h];have hp':tmps[p]?.getD undef=.pointer (some ⟨g,0,none⟩):=by simpa using hp
 simp[Sem.run_bind,Result.andThen,hp',asAddr,this]
theorem Zal{fn:Func}{p u:Tmp}{n:Nat}{tmps:Array Value}(h:fn.results=#[.cell p t,.tmp u])(hp:tmps.getD p undef=.pointer (some ⟨g,0,none⟩))(hagg:(isAgg t).run P w=.ok true w)(hi:(P.info? t).map (·.size)=some n)(hb:Blk w g te cur)(hn:cur.size=n) :
 (results fn tmps).run P w=.ok (.tuple #[.agg cur,tmps.getD u undef]) w:=by
 have:=Zdc (P:=P) hagg hi hb (o:=0) (by omega);rw[List.drop_zero,List.take_of_length_le (by simp[hn])]at this;have hp':tmps[p]?.getD undef=.pointer (some ⟨g,0,none⟩):=by simpa using hp
 simp only[results,h];simp[Sem.run_bind,Result.andThen,hp',asAddr,this]
theorem Zh{new:Array Value}(n:Nat)(hb:Blk w g te cs)(h:∀w',Blk w' g te new→w.grownBy w' (some g)→K (a.put o.dst undef) w')(ho:o.op=.store t x y:=by exact rfl)(hx:a.eval x=.pointer (some ⟨g,0,none⟩):=by exact rfl)(hy:a.eval y=.agg new:=by exact rfl)(hi:(P.info? t).map (·.size)=some n:=by kernel_rfl)(hn:new.size=n:=by exact rfl)(hcs:cs.size=n:=by exact rfl)(h1:(new.toList.all fun u=>u.oneCell')=true:=by exact rfl):o.wp P a w K Q:=Zc0 ho hx hy hi hn hb hcs h1 h
theorem Zo{c:Code}{c1:Array Value}{t1:TypeId}(h:∀W,Blk W w.heap.size t1 c1→W.heap.size=w.heap.size+1→Below w.heap.size w W→Code.wp P c Q a W):Code.wp P c Q a (w.alloc (.cells c1 t1)):=Za7 _ _ _ (fun W=>Code.wp P c Q a W) h
end Go.Proofs.YtinibgklgehdpaaGreatDoor
