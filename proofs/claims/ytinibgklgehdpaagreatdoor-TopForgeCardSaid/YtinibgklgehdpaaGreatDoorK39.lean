/- A part of what the last text stands on. -/
import Derived.Deep.DeepCutAuto
import Derived.Deep.CutBlock
import Derived.Test.YtinibgklgehdpaaGreatDoorK02
import Derived.Test.YtinibgklgehdpaaGreatDoorK03
import Derived.Test.YtinibgklgehdpaaGreatDoorK22
import Derived.Test.YtinibgklgehdpaaGreatDoorK31
import Derived.Test.YtinibgklgehdpaaGreatDoorK38
namespace Go.Proofs.YtinibgklgehdpaaGreatDoor
open Go.ChangeShapes Go.WideShapes Go.ChangeAt Go.RowKit Qa Qb Qc
set_option linter.all false
set_option maxHeartbeats 20000000
set_option maxRecDepth 100000
variable{w w' W wr:World}{a:Act}{o:Oper}{ops:Array Oper}{rest:List Oper}{Q:Exit→Act→World→Prop}{v:Value}{cs:Array Value}{A:Option Addr}{e t:TypeId}{k g sz bs c:Nat}{f:Fl.Ft}{α:Type}{xs:List α}{R:View→List Value→α→Prop}
namespace Fl
theorem Zn2{G:List Nat}{a b c:World}{r:Option Nat}(h:Chg G a b)(hg:b.grownBy c r)(hr:∀q,r=some q→q∈G∨a.heap.size≤q):Chg G a c :=
 ⟨hg.os.trans h.os,hg.tape.trans h.tape,hg.output.trans h.output,Nat.le_trans h.size hg.size,fun i hi hn=>(hg.block i (Nat.lt_of_lt_of_le hi h.size) (fun e=>(hr i e.symm).elim hn (fun h=>by omega))).trans (h.block i hi hn)⟩
theorem Zax{a b:World}{B:Nat}(hg:a.grownBy b (some g))(h:g<B):VLe (View.from a.cell? B) (View.from b.cell? B):=fun ad v e=>by
 unfold View.from at e⊢
 split at e
 ·cases e
 ·rename_i h1
  rw[if_neg h1]
  exact hg.cell e (by intro q;injection q;omega)
def RAt:View→List Value→At→Prop:=fun _ cs a=>cs=[.int .i64 a.kind,.int .i64 a.node,.int .i64 a.pick,.string a.text]
theorem RAt.mono:Mono RAt:=fun _ _ _ _ r _=>r
abbrev RAts:=RSl 4 RAt 40
theorem RAts.at{h:View}{A:Option Addr}{n c:Nat}{xs:List At}(hr:RAts h (.slice A n c) xs):n=xs.length∧n≤c∧n*40≤140737488355328∧∀k (hk:k<xs.length),∃b o,A=some ⟨b,o,none⟩∧h ⟨b,o+k*4,none⟩=some (.int .i64 xs[k].kind)∧h ⟨b,o+k*4+1,none⟩=some (.int .i64 xs[k].node)∧h ⟨b,o+k*4+2,none⟩=some (.int .i64 xs[k].pick)∧h ⟨b,o+k*4+3,none⟩=some (.string xs[k].text):=by
 obtain⟨A',c',e,h1,_,h2,_,h3⟩:=hr;injection e with e1 e2 e3;subst e1 e2 e3;refine⟨rfl,h1,h2,fun k hk=>?_⟩;obtain⟨b,o,ea,hc⟩:=h3 (by omega);obtain⟨cs,hl,hcs,rfl⟩:=hc k hk;have c0:=hcs 0 (by omega);have c1:=hcs 1 (by omega);have c2:=hcs 2 (by omega);have c3:=hcs 3 (by omega);simp at c0 c1 c2 c3;exact⟨b,o,ea,c0,c1,c2,c3⟩
def atC(a:At):List Value:=[.int .i64 a.kind,.int .i64 a.node,.int .i64 a.pick,.string a.text]
theorem Zry(l:List At):(l.map atC).flatten.length=l.length*4:=by
 induction l with
 |nil=>rfl
 |cons a l ih=>rw[List.map_cons,List.flatten_cons,List.length_append,ih,List.length_cons];simp[atC];omega
theorem Zz2(l:List At):∀u∈(l.map atC).flatten,u.oneCell'=true:=by
 intro u hu;obtain⟨cs,hcs,huc⟩:=List.mem_flatten.1 hu;obtain⟨a,_,rfl⟩:=List.mem_map.1 hcs;simp[atC]at huc
 rcases huc with rfl|rfl|rfl|rfl<;>rfl
structure OwnA (w:World) (base:Nat) (v:Value) (l:List At):Prop where
 own:w.ownsRow base 58 4 v l.length (l.map atC).flatten
theorem OwnA.nil(w:World)(base:Nat):OwnA w base (.slice none 0 0) []:=⟨World.ownsRow_nil _ _ _ _⟩
theorem OwnA.sl{base:Nat}{l:List At}(h:OwnA w base v l):OwnSl 4 RAt 58 w base v l :=
 ⟨l.map atC,h.own,by simp,fun k hk=>⟨atC l[k],by simp[hk],rfl,rfl⟩⟩
theorem OwnA.form{base:Nat}{l:List At}(h:OwnA w base v l):∃A c,v=.slice A l.length c:=h.sl.form
theorem OwnA.reads{base:Nat}{l:List At}(h:OwnA w base v l)(hl:l.length≤100000):RAts w.cell? v l:=h.sl.reads RAt.mono (by omega)
theorem OwnA.kept{base:Nat}{l:List At}(h:OwnA w base v l)(hb:Below w.heap.size w w'):OwnA w' base v l :=
 ⟨h.own.kept (row:=none) ⟨hb.os,hb.tape,hb.output,hb.size,fun k hk _=>hb.block k hk⟩ (by cases v.ownBlock<;>simp)⟩
theorem OwnA.alloc{base:Nat}{l:List At}(h:OwnA w base v l)(x:Obj):OwnA (w.alloc x) base v l:=⟨h.own.alloc x⟩
theorem RAts.src{n:Nat}{l:List At}(h:RAts w.cell? (.slice A n c) l) :
 n=l.length∧(A=none→n=0∧c=0)∧∀ad,A=some ad→∀j u,((l.map atC).flatten)[j]?=some u→w.cell? (ad.add j)=some u:=by
 obtain⟨A',c',e,h1,h2,h3,h4,h5⟩:=h;injection e with e1 e2 e3;subst e1 e2 e3;refine⟨rfl,fun hA=>⟨?_,h4 hA⟩,fun ad had j u hu=>?_⟩
 ·rcases Nat.eq_zero_or_pos l.length with h|h
  ·exact h
  ·obtain⟨b,o,ea,_⟩:=h5 h;rw[hA]at ea;cases ea
 ·have hj:j<(l.map atC).flatten.length:=(List.getElem?_eq_some_iff.1 hu).1;rw[Zry]at hj;obtain⟨b,o,ea,hc⟩:=h5 (by omega);rw[ea]at had;injection had with had;subst had;have hq:j/4<l.length:=by omega
  obtain⟨cs,hl,hcell,hx⟩:=hc (j/4) hq;have hx:cs=atC l[j/4]:=hx;have hlen:∀i (hi:i<(l.map atC).length),(l.map atC)[i].length=4:=fun i hi=>by simp[atC]
  have hf:=Zgv (css:=l.map atC) (i:=j/4) (j:=j%4) (cs:=cs) hlen (by rw[hx];simp[hq]) (by omega);rw[show j/4*4+j%4=j by omega]at hf;rw[Zbs,show o+j=o+j/4*4+j%4 by omega,hcell (j%4) (by omega),←hf];exact hu
theorem RAts.ofBlk(l:List At)(hb:Blk w g t cs)(hc:cs.toList=(l.map atC).flatten)(hl:l.length≤100000):RAts w.cell? (.slice (some ⟨g,0,none⟩) l.length l.length) l:=by
 refine⟨_,_,rfl,Nat.le_refl _,Zbw (by omega),by omega,(fun h=>by cases h),fun hp=>⟨g,0,rfl,fun i hi=>⟨atC l[i],rfl,fun j hj=>?_,rfl⟩⟩⟩;have hlen:∀i (hi:i<(l.map atC).length),(l.map atC)[i].length=4:=fun i hi=>by simp[atC]
 have hf:=Zgv (css:=l.map atC) (i:=i) (j:=j) (cs:=atC l[i]) hlen (by simp[hi]) hj;rw[Nat.zero_add,hb.cell,←Array.getElem?_toList,hc,hf]
theorem actInfo:(Tryz.prog.info? 58).map (fun i=>(i.zero,i.size,i.bytes))=some (some (.agg #[.int .i64 0,.int .i64 0,.int .i64 0,.string ByteArray.empty]),4,40):=by kernel_rfl
theorem Zdt{base:Nat}{vy:Value}{xs ys:List At}(s y:Operand)(hgd:o.guard=none)(ho:o.op=.call {callee:=.builtin .append,args:=#[s,y],argTypes:=#[31,31] })(hs:a.eval s=v)(hown:OwnA wr base v xs)(hbl:Below base W wr)(hbase:base≤wr.heap.size)(hx:a.eval y=vy)(hy:RAts wr.cell? vy ys)(hn:xs.length+ys.length≤100000)(h:∀v' w',OwnA w' base v' (xs++ys)→Below base W w'→wr.grownBy w' v.ownBlock→wpList Tryz.prog ops Q rest (a.put o.dst v') w'):wpList Tryz.prog ops Q (o::rest) a wr:=by
 obtain⟨i,hi,hz0,hz1,hz2⟩:=info_parts actInfo;obtain⟨A,c,rfl,_⟩:=id hy;obtain⟨_,hA,hcell⟩:=hy.src;refine Zcv hgd s y 31 ho base 58 i _ 4 40 Tryz.underlying31 hi hz0 hz1 hz2 rfl (by decide) v xs.length _ hs hown.own A ys.length c ((ys.map atC).flatten) hx (Zry ys) hA hcell (Zz2 ys) (Zbw (by omega)) (by omega) hbase (fun v' w' ho hg=>h v' w' ⟨?_⟩ (hbl.grown hg hbase (fun g hg=>(hown.own.lt g hg).1)) hg);rw[List.length_append,List.map_append,List.flatten_append];exact ho
def Zcw(n many:Int):Int:=if n<0 then(-(n+1))%many else n%many
theorem Zb2(n:Int){many:Int}(h:0<many):0≤Zcw n many∧Zcw n many<many:=by
 unfold Zcw
 split<;>exact⟨Int.emod_nonneg _ (by omega),Int.emod_lt_of_pos _ h⟩
def I64(n:Int):Prop:= -9223372036854775808≤n∧n≤9223372036854775807
theorem Zm4{n:Int}(h:I64 n):IntKind.i64.wrap n=n:=by
 obtain⟨h1,h2⟩:=h;simp only[IntKind.wrap,IntKind.signed,IntKind.bits]
 have:Int.bmod n (2^64)=n:=by
  rw[Int.bmod_def];omega
 first|exact this|(simp;omega)
theorem Zbp(n many:Int)(w:World)(hn:I64 n)(hm:0<many∧many≤1000000) :
 Calls Tryz.prog 30 #[.int .i64 n,.int .i64 many] w fun e w'=>e=.returned (.int .i64 (Zcw n many))∧w=w':=by
 have h0:¬many=0:=by omega
 by_cases hneg:n<0
 ·have e1:IntKind.i64.wrap (n+1)=n+1:=Zm4 ⟨by have:=hn.1;omega,by omega⟩;have e2:IntKind.i64.wrap (-(n+1))= -(n+1):=Zm4 ⟨by omega,by have:=hn.1;omega⟩;obtain⟨x,hx⟩:∃x:Nat,-(n+1)=x:=⟨(-(n+1)).toNat,by omega⟩
  have e3:Hid (Zcw n many=(x:Int).tmod many):=by
   show _=_;unfold Zcw;rw[if_pos hneg,hx];exact(Int.tmod_eq_emod_of_nonneg (by omega)).symm
  have e4:IntKind.i64.wrap ((x:Int).tmod many)=(x:Int).tmod many:=by
   have:=Int.emod_lt_of_pos (x:Int) hm.1;have:=Int.emod_nonneg (x:Int) h0;rw[Int.tmod_eq_emod_of_nonneg (by omega)];exact Zm4 ⟨by omega,by omega⟩
  rw[hx]at e2;have hn0:=Lib.hid hn;clear hn;rw[e3.out]
  go_enter Tryz.func30,Tryz.ntmps30
  go_wp2;go_ret;simp[e1,e2,hx,e4];exact(Int.tmod_eq_emod_of_nonneg (by omega)).symm
 ·have e3:Hid (Zcw n many=n.tmod many):=by
   show _=_;unfold Zcw;rw[if_neg hneg];exact(Int.tmod_eq_emod_of_nonneg (by omega)).symm
  have e4:IntKind.i64.wrap (n.tmod many)=n.tmod many:=by
   have:=Int.emod_lt_of_pos n hm.1;have:=Int.emod_nonneg n h0;rw[Int.tmod_eq_emod_of_nonneg (by omega)];exact Zm4 ⟨by omega,by omega⟩
  have hn0:=Lib.hid hn;clear hn;rw[e3.out]
  go_enter Tryz.func30,Tryz.ntmps30
  go_wp2;go_ret;simp[e4];exact(Int.tmod_eq_emod_of_nonneg (by omega)).symm
theorem Zd2(n many:Int)(w:World)(hn:I64 n)(hm:0<many∧many≤1000000) :
 Calls Tryz.prog 19 #[.int .i64 n,.int .i64 many] w fun e w'=>e=.returned (.int .i64 (Zcw n many))∧w=w':=by
 obtain⟨P,hP⟩:∃P,Hid (Zcw n many=P):=⟨_,rfl⟩;have h:=Zbp n many;rw[hP.out]at h⊢;have H:=Lib.hid (fun w=>h w hn hm);clear h hn hm hP
 go_enter Tryz.func19,Tryz.ntmps19
 go_wp2_with fail
 refine(H.out _).mono ?_;rintro e w' ⟨rfl,rfl⟩;go_wp2;go_ret;exact⟨rfl,rfl⟩
def badI(n:Int):Int:=Zcw n 5-1
theorem Zz0(n:Int):inB (badI n) (-1) 3=true:=Zbi.2 (by have:=Zb2 n (many:=5) (by decide);unfold badI;omega)
theorem bad_any(n:Int)(w:World)(hn:I64 n) :
 Calls Tryz.prog 13 #[.int .i64 n] w fun e w'=>e=.returned (.int .i64 (badI n))∧w=w':=by
 obtain⟨P,hP⟩:∃P,Hid (Zcw n 5=P):=⟨_,rfl⟩;have h:=Zd2 n 5;have hr:=Zb2 n (many:=5) (by decide);unfold badI;rw[hP.out]at h hr⊢;have H:=Lib.hid (fun w=>h w hn (by decide));clear h hn hP
 go_enter Tryz.func13,Tryz.ntmps13
 go_wp2_with fail
 refine(H.out _).mono ?_;rintro e w' ⟨rfl,rfl⟩;go_wp2;go_ret
 first|exact⟨rfl,rfl⟩|(refine⟨?_,rfl⟩;go_num)
theorem Zzo{l:List At}{p:At→Bool}(hlt:k<l.length)(h0:∀a∈l.take k,p a=false)(hp:p l[k]=true):l.find? p=some l[k]:=by
 have e:l=l.take k++l[k]::l.drop (k+1):=by rw[←List.drop_eq_getElem_cons hlt,List.take_append_drop]
 refine(congrArg (List.find? p) e).trans ?_;rw[List.find?_append,List.find?_eq_none.2 (fun a ha=>by simp[h0 a ha]),List.find?_cons_of_pos hp];rfl
def ROc(h:View)(cs:List Value)(x:Oc):Prop:=∃vv vs vc,cs=[vv,vs,.int .i64 x.away,vc]∧RSl 6 RVw 112 h vv x.nodes∧RSigns h vs x.signs∧RIs h vc x.codes
def oc0:Oc:=⟨[],[],0,[]⟩
theorem ROc.zero(h:View):ROc h [.slice none 0 0,.slice none 0 0,.int .i64 0,.slice none 0 0] oc0:=⟨_,_,_,rfl,RSl.nil _ _ _ _,RSl.nil _ _ _ _,RVec.nil _ _ _⟩
theorem Zs6{wa:World}{gf:Nat}{t:Nat×Nat}(hb:Below gf wa w)(hz:wa.heap.size≤gf):VLe wa.cell? (Zas (Fl.mark (fun _=>none) gf (some t)) w):=fun a v e=>by
 have hlt:=World.block_lt_of_cell? wa a e
 unfold Zas Fl.mark
 rw[if_neg (by rw[if_neg (by omega)];simp)]
 exact(World.cell?_of_block (hb.block a.block (by omega))).trans e
theorem fr_low{o o':Own}{B:Nat}(hno:∀b,b<B→o b=none)(hf:Fr All o w o' w')(hz:B≤w.heap.size):Below B w w' :=
 ⟨hf.os,hf.tape,hf.output,hf.size,fun k hk=>(hf.keep k (by omega) (fun t ht=>by rw[hno k hk]at ht;cases ht)).2⟩
theorem fr_new{o o':Own}{B:Nat}(hno:∀b,b<B→o b=none)(hf:Fr All o w o' w')(hz:B≤w.heap.size){t:Nat×Nat}(hg:o' g=some t):B≤g:=by
 rcases Nat.lt_or_ge g B with h|h
 ·have:=(hf.keep g (by omega) (fun t ht=>by rw[hno g h]at ht;cases ht)).1;rw[hno g h,hg]at this;cases this
 ·exact h
theorem Zes(f:Ft):(Zhg f).length=4:=rfl
theorem Zsf(hk:k<4):(Zhg f).take (k+1)=(Zhg f).take k++[if (k:Int)=f.rogue then vw0 else view (Zan f k)]:=by
 rw[List.take_succ_eq_append_getElem (by rw[Zes];exact hk)];have:k=0∨k=1∨k=2∨k=3:=by omega
 rcases this with rfl|rfl|rfl|rfl<;>rfl
theorem Zx2:Elem Tryz.prog 24 43 6 112:=Znz (z:=.agg #[.bool false,.int .i64 0,.slice none 0 0,.slice none 0 0,.slice none 0 0,.slice none 0 0]) Tryz.underlying24 (by kernel_rfl) rfl (by decide)
theorem Row.from_{o:Own}{t:Nat×Nat}(hv:∀h h' cs x,R h cs x→R h' cs x){B:Nat}(h:Row o t sz R e w v xs)(hbs:xs.length*bs≤140737488355328)(hB:∀g,o g=some t→B≤g):RSl sz R bs (View.from w.cell? B) v xs:=by
 obtain⟨A,c,e,h1,h2,h3,h4,h5⟩:=h.reads (fun h h' cs x r _=>hv h h' cs x r) hbs;subst e;refine⟨A,c,rfl,h1,h2,h3,h4,fun hp=>?_⟩;obtain⟨b,o1,ea,hc⟩:=h5 hp;have hb:B≤b:=hB b (h.mark b (by rw[ea];rfl));refine⟨b,o1,ea,fun i hi=>?_⟩;obtain⟨cs,q1,q2,q3⟩:=hc i hi;refine⟨cs,q1,fun j hj=>?_,hv _ _ _ _ q3⟩;unfold View.from;rw[if_neg (by show ¬b<B;omega)];exact q2 j hj
theorem Zy6(rogue:Int)(v:Value)(l:List At)(w:World)(hl:RAts w.cell? v l)(hs:∀a∈l,a.text.size≤140737488355328)(hT:Tabs w.cell?) :
 Calls Tryz.prog 28 #[.int .i64 rogue,v] w fun e w'=>∃cs:Array Value,e=.returned (.tuple #[.agg cs,.int .i64 (runE rogue l)])∧Below w.heap.size w w'∧ROc (View.from w'.cell? w.heap.size) cs.toList (if runE rogue l=0 then Zix (run rogue l)else oc0):=by
 obtain⟨lA,lc,rfl,-⟩:=id hl;obtain⟨E,hE⟩:∃E,Hid (runE rogue l=E):=⟨_,rfl⟩;obtain⟨O,hO⟩:∃O,Hid ((if E=0 then Zix (run rogue l)else oc0)=O):=⟨_,rfl⟩;rw[hE.out,hO.out]
 go_enter Tryz.func28,Tryz.ntmps28
 go_upto_region 1 with fail
 refine Zo fun W0 hk0 hsz0 hb0=>?_
 by_cases hr:inB rogue (-1) 3=true
 rotate_left
 ·have hE2:Hid (E=2):=by show _=_;rw[←hE.out];unfold runE;simp[hr]
  have hO2:Hid (O=oc0):=by show _=_;rw[←hO.out,hE2.out];rfl
  have hr2:rogue< -1∨¬rogue< -1∧4≤rogue:=by
   by_cases h:rogue< -1
   ·exact .inl h
   ·refine .inr ⟨h,?_⟩;have:¬(-1≤rogue∧rogue≤3):=fun hh=>hr (by unfold inB;simp;omega)
    omega
  clear hE hO hr hl hs
  rcases hr2 with h1|⟨h1,h4⟩ <;>
  ·go_wp2_with (refine Zj 4 hk0 ?_)
   intro w2 hk2 hg2;go_wp2;refine bodyPost_ret (Zal rfl rfl (by kernel_rfl) (by kernel_rfl) hk2 rfl) rfl ?_;refine⟨_,by rw[hE2.out];rfl,Zab hb0 hb0.size hg2 (by intro k e;injection e;omega),?_⟩;rw[hO2.out];exact ROc.zero _
 have hr2:¬rogue< -1∧¬4≤rogue:=by unfold inB at hr;simp at hr;omega
 have hr1:¬rogue< -1:=hr2.1;have hr4:¬4≤rogue:=hr2.2
 by_cases hlen:3000<l.length
 ·have hE2:Hid (E=1):=by show _=_;rw[←hE.out];unfold runE;rw[if_neg (by simp[hr]),if_pos hlen]
  have hO2:Hid (O=oc0):=by show _=_;rw[←hO.out,hE2.out];rfl
  have hlI:(l.length:Int)>3000:=by omega
  clear hE hO hr hl hs hr2 hlen
  go_wp2_with (refine Zj 4 hk0 ?_)
  intro w2 hk2 hg2;go_wp2;refine bodyPost_ret (Zal rfl rfl (by kernel_rfl) (by kernel_rfl) hk2 rfl) rfl ?_;refine⟨_,by rw[hE2.out];rfl,Zab hb0 hb0.size hg2 (by intro k e;injection e;omega),?_⟩;rw[hO2.out];exact ROc.zero _
 have hE2:Hid (E=match l.find? (fun a=>actE a != 0)with|some a=>actE a|none=>0):=by show _=_;rw[←hE.out];unfold runE;rw[if_neg (by simp[hr]),if_neg hlen];cases l.find? (fun a=>actE a != 0)<;>rfl
 have hlI:¬(l.length:Int)>3000:=by omega
 obtain⟨_,hn1,hn2,hel⟩:=RAts.at (hl.mono RAt.mono (Zaa hb0));have Hel:=Lib.hid hel;have Hs:=Lib.hid hs;have Hlen:=Lib.hid hlen;have Hrd:=Lib.hid (hl.mono RAt.mono (Zaa hb0));have HTa:=Lib.hid (hT.mono (Zaa hb0));have Hr:=Lib.hid hr;have hz0:=hb0.size;clear hel hs hl hlen hr2
 go_wp2_with fail
 go_loopw [7,8,31] (fun _ _ j wr=>∃k:Nat,k≤l.length∧j=.int .i64 k∧(∀a∈l.take k,actE a=0)∧Below W0.heap.size W0 wr) (fun _ _ j _=>l.length-(intOf j).toNat)
 case atStart=>exact⟨0,Nat.zero_le _,rfl,by simp,Below.refl _ _⟩
 case round =>
  obtain⟨k,hk,rfl,hal,hbl⟩:=hrel;have Hal:=Lib.hid hal;clear hal;have hbs:=hbl.size
  by_cases hlt:k<l.length
  ·obtain⟨b0,o0,rfl,q0,q1,q2,q3⟩:=Hel.out k hlt;have c0:=Zaa hbl _ _ q0;have c1:=Zaa hbl _ _ q1;have c2:=Zaa hbl _ _ q2;have c3:=Zaa hbl _ _ q3;have Hk:=Lib.hid (List.getElem_mem hlt);have hsz:=Hs.out _ Hk.out;have Hn:=Lib.hid (List.take_succ_eq_append_getElem hlt);have hltI:(k:Int)<l.length:=by omega
   have hlt3:(k:Int)<3000:=by have:=Hlen.out;omega
   have Hf:Hid (actE l[k]≠0→l.find? (fun a=>actE a != 0)=some l[k]):=by
    show _→_;intro hne;exact Zzo hlt (fun a ha=>by simpa using Hal.out a ha) (by simpa using hne)
   generalize l[k]=a at *;obtain⟨AE,hAE⟩:∃x,Hid (actE a=x):=⟨_,rfl⟩;have hck:=fun w'=>Zl6 a.kind a.node a.pick a.text w' hsz
   rw[show actF a.kind a.node a.pick a.text=AE from hAE.out]at hck;clear q0 q1 q2 q3
   go_wp2_with fail
   refine(hck _).mono ?_;rintro e w2 ⟨rfl,hb2⟩;have hba:=Zac wr (.cells #[.int .i64 a.kind,.int .i64 a.node,.int .i64 a.pick,.string a.text] 58);have hbr:Below W0.heap.size W0 w2:=hbl.trans ((hba.trans (hb2.mono hba.size)).mono hbs);clear hba
   by_cases h0:AE=0
   ·go_wp2;go_roundw
    case rel=>exact⟨k+1,by omega,by go_num,(by
     intro x hx;rw[Hn.out,List.mem_append]at hx
     rcases hx with hx|hx
     ·exact Hal.out x hx
     ·rw[List.mem_singleton.1 hx,hAE.out];exact h0),hbr⟩
    case measure=>simp[intOf];omega
   ·have hE3:Hid (E=AE):=by
     show _=_;rw[hE2.out,Hf.out (by rw[hAE.out];exact h0)];exact hAE.out
    have hO2:Hid (O=oc0):=by show _=_;rw[←hO.out,hE3.out,if_neg h0]
    have hkr:=hk0.kept hbr;have h0b:(AE==0)=false:=by simpa using h0
    have hz2:=hbr.size;clear hE hE2 hO Hf Hel hAE hck
    go_wp2_with (refine Zj 4 hkr ?_)
    intro w3 hk3 hg3;go_wp2;refine bodyPost_ret (Zal rfl rfl (by kernel_rfl) (by kernel_rfl) hk3 rfl) rfl ?_;refine⟨_,by rw[hE3.out];rfl,Zab (hb0.trans (hbr.mono hz0)) (by omega) hg3 (by intro k e;injection e;omega),?_⟩;rw[hO2.out];exact ROc.zero _
  ·have hkl:k=l.length:=by omega
   have hltI:¬(k:Int)<l.length:=by omega
   have hac:Hid (∀a∈l,actE a=0):=by
    show ∀a∈l,_;intro a ha;exact Hal.out a (by rw[hkl,List.take_length];exact ha)
   have hE3:Hid (E=0):=by
    show _=_;rw[hE2.out,List.find?_eq_none.2 (fun a ha=>by simp[hac.out a ha])]
   have hO2:Hid (O=Zix (run rogue l)):=by show _=_;rw[←hO.out,if_pos hE3.out]
   clear hE hE2 hO hkl Hal;obtain⟨wa,hwa⟩:∃wa:World,wa=wr:=⟨_,rfl⟩;subst hwa
   go_upto_region 13 with fail
   refine Zo fun W1 hk1 hsz1 hb1=>?_
   have hk1:Blk W1 wa.heap.size 119 (stC rogue 0).toArray:=hk1;have hza:W0.heap.size≤wa.heap.size:=hbs;have hlen4:l.length≤3000:=by have:=Hlen.out;omega
   obtain⟨gf,hgf⟩:∃gf,Hid (wa.heap.size=gf):=⟨_,rfl⟩;rw[hgf.out]at hk1 hza⊢;have hbf:Below gf wa W1:=hgf.out▸hb1;have hbg:Below W0.heap.size W0 wa:=hbl;clear hb1 hsz1 hbs hbl Hel hltI hk
   go_wp2_with fail
   go_loopw [10,45] (fun _ j wr=>∃k:Nat,k≤4∧j=.int .i64 k∧Blk wr gf 119 (stC rogue k).toArray∧Below gf wa wr) (fun _ j _=>4-(intOf j).toNat)
   case atStart=>exact⟨0,by omega,rfl,hk1,hbf⟩
   case round =>
    clear hk1 hbf;obtain⟨k,hk,rfl,hB,hbf⟩:=hrel;have hbs:=hbf.size
    by_cases hlt:k<4
    ·have h4:k=0∨k=1∨k=2∨k=3:=by omega
     obtain⟨kk,hkk⟩:∃kk:Nat,Hid (kk=k+1):=⟨_,rfl⟩;have hgw:gf≤wr.heap.size:=by have:=hgf.out;omega
     clear hlt hk
     rcases h4 with rfl|rfl|rfl|rfl
     all_goals
      go_upto_region 16 with fail
      refine Zt (fun w'=>Below wr.heap.size wr w') (fun w'=>Below wr.heap.size wr w') [7] (.q 0 (.q 1 (.q 2 (.q 4 (.q 5 (.l 3 (.q 6 (.l 7 .nil)))))))) ?_ ?_
      ·exact⟨Zad _,Zad _⟩
      intro W3 _ hS3
      repeat(refine Zq ?_;simp only[sx])
      refine Zd fun K hK=>?_
      try simp only[sy]
      go_simp;refine(Zpc _ _).mono ?_;rintro e w5 ⟨rfl,hb5⟩;have hS5:=hS3.trans (hb5.mono hS3.size);have hB5:=hB.kept hS5;refine hK.out _ _ (hS5) fun hS=>?_
      clear hK K
      try simp only[sx]
      repeat(refine Zq ?_;simp only[sx])
      refine Zc fun K hK=>?_
      try simp only[sy]
      refine Zav (n:=15) rfl rfl rfl (by kernel_rfl) rfl hB5 (Nat.le_of_ble_eq_true rfl) rfl ?_;intro w7 hB7 hg7;have hb7:Below gf wa w7:=Zab (hbf.trans (hS5.mono hgw)) (by have:=hS5.size;omega) hg7 (by intro q e;injection e;omega);refine hK.out _ _ ?_;clear hK K
      try simp only[sx]
      repeat(refine Zq ?_;simp only[sx])
      refine Zah ?_
      have hB8:Blk w7 gf 119 (stC rogue kk).toArray:=by
       have e:=hkk.out;subst e;exact hB7
      clear hB7 hB hB5;go_wp2;go_roundw
      case rel=>exact⟨kk,by have:=hkk.out;omega,by rw[hkk.out];go_num,hB8,hb7⟩
      case measure=>simp[intOf]
    ·have h4:k=4:=by omega
     subst h4;have hFt:=FtAt.start (rogue:=rogue) hB;have hHv:=Zs6 (t:=(8,0)) hbf (Nat.le_of_eq hgf.out);have hno:∀b,b<gf→Fl.mark (fun _=>none) gf (some (8,0)) b=none:=fun b hb=>by unfold Fl.mark;rw[if_neg (by omega)]
     obtain⟨o0,ho0⟩:∃o,Fl.mark (fun _=>none) gf (some (8,0))=o:=⟨_,rfl⟩;rw[ho0]at hFt hHv hno;clear ho0;have Hno:=Lib.hid hno;have HHv:=Lib.hid hHv;have hgw:gf≤wr.heap.size:=by have:=hB.lt;omega
     clear hno hHv hB;obtain⟨w1,hw1⟩:∃w1:World,w1=wr:=⟨_,rfl⟩;subst hw1;have hrd:RAts (Zas o0 w1) (.slice lA l.length lc) l:=Hrd.out.mono RAt.mono ((Zaa hbg).trans HHv.out);obtain⟨_,_,_,hel2⟩:=RAts.at hrd;have Hel2:=Lib.hid hel2;have HT:=Lib.hid (HTa.out.mono ((Zaa hbg).trans HHv.out))
     have HM:Hid (∀k,MI ((l.take k).foldl Fl.doA (Fl.start rogue))∧((l.take k).foldl Fl.doA (Fl.start rogue)).signs.length≤1000000000∧((l.take k).foldl Fl.doA (Fl.start rogue)).codes.length≤1000000000):=by
      show ∀k,_;intro k;have hok:∀a∈l.take k,AOk a:=fun a ha=>Zr2 (hac.out a (List.mem_of_mem_take ha))
      have h1:=Zmj (l.take k) (Fl.start rogue) hok (MI.start Hr.out);have h2:=Zmx (l.take k) (Fl.start rogue);have h3:(l.take k).length≤3000:=by rw[List.length_take];omega
      have h4:(Fl.start rogue).signs.length=0:=rfl;have h5:(Fl.start rogue).codes.length=0:=rfl;exact⟨MI.fold _ hok (MI.start Hr.out),by omega,by omega⟩
     clear hrd hel2
     go_wp2_with fail
     go_loopw [12,58] (fun _ j wr=>∃(k:Nat) (o':Own),k≤l.length∧j=.int .i64 k∧FtAt o' wr gf ((l.take k).foldl Fl.doA (Fl.start rogue))∧Fr All o0 w1 o' wr) (fun _ j _=>l.length-(intOf j).toNat)
     case atStart=>exact⟨0,o0,by omega,rfl,hFt,.refl _ hFt.lim⟩
     case round =>
      clear hFt;obtain⟨k,o',hk,rfl,hF,hfr⟩:=hrel
      by_cases hlt:k<l.length
      ·obtain⟨b0,o1,rfl,q0,q1,q2,q3⟩:=Hel2.out k hlt;have hvv:=hfr.view;have c0:=Zag _ _ _ _ (hvv _ _ q0);have c1:=Zag _ _ _ _ (hvv _ _ q1);have c2:=Zag _ _ _ _ (hvv _ _ q2);have c3:=Zag _ _ _ _ (hvv _ _ q3);have hltI:(k:Int)<l.length:=by omega
       have hlt3:(k:Int)<3000:=by omega
       have Hn:Hid ((l.take (k+1)).foldl Fl.doA (Fl.start rogue)=Fl.doA ((l.take k).foldl Fl.doA (Fl.start rogue)) l[k]):=by
        show _=_;rw[List.take_succ_eq_append_getElem hlt,List.foldl_append];rfl
       have HMk:=Lib.hid (HM.out k);have Ha:=Lib.hid (hac.out l[k] (List.getElem_mem hlt));generalize (l.take k).foldl Fl.doA (Fl.start rogue)=F at hF Hn HMk;generalize l[k]=a at *;have HT1:=Lib.hid (HT.out.mono hvv);have hlim:=hF.lim;have hba:=Zac wr (.cells #[.int .i64 a.kind,.int .i64 a.node,.int .i64 a.pick,.string a.text] 58);have hF1:=hF.below hba;have hT2:=HT1.out.mono (Zae hlim hba);have hfb:=Fr.of_below (T:=All) hlim hba;clear q0 q1 q2 q3 hvv
       go_wp2_with fail
       refine(do_any gf F a o' _ hF1 hT2 HMk.out.1 Ha.out HMk.out.2.1 HMk.out.2.2).mono ?_;rintro e w3 ⟨rfl,o3,hfr3,hF3⟩;have hfr4:=All.trans (All.trans hfr hfb) hfr3;rw[←Hn.out]at hF3;clear hF1 hT2 hfb hba c0 c1 c2 c3;go_wp2;go_roundw
       case rel=>exact⟨k+1,o3,by omega,by go_num,hF3,hfr4⟩
       case measure=>simp[intOf];omega
      ·have hltI:¬(k:Int)<l.length:=by omega
       have hkl:k=l.length:=by omega
       rw[hkl,List.take_length]at hF;have HMl:=Lib.hid (HM.out l.length);rw[List.take_length]at HMl;have hO3:Hid (O=Zix (l.foldl Fl.doA (Fl.start rogue))):=hO2;have hrg:Hid ((l.foldl Fl.doA (Fl.start rogue)).rogue=rogue):=Zgb rogue l;clear hkl hO2 HM Hel2 Hs hlt hk;generalize l.foldl Fl.doA (Fl.start rogue)=F at hF HMl hO3 hrg;have hblw:=fr_low Hno.out hfr hgw;have hnew:∀g t,o' g=some t→gf≤g:=fun g t hg=>fr_new Hno.out hfr hgw hg
       have Hnew:=Lib.hid hnew;have HT1:=Lib.hid (HT.out.mono hfr.view);clear hnew hfr HT;obtain⟨wd,hwd⟩:∃wd:World,wd=wr:=⟨_,rfl⟩;subst hwd;have hk0l:=hk0.lt;have hk0d:=((hk0.kept hbg).below hbf (by omega)).below hblw (by omega);have hbwd:Below w.heap.size w wd:=((hb0.trans (hbg.mono hz0)).trans (hbf.mono (by omega))).trans (hblw.mono (by omega));obtain⟨va,aS,aR⟩:=hF.away;obtain⟨vco,cS,cR⟩:=hF.codes;obtain⟨_,_,vsg,sS,sR⟩:=hF.sg;have a0:=aS.cell (j:=0) (Nat.le_of_ble_eq_true rfl);have c0:=cS.cell (j:=0) (Nat.le_of_ble_eq_true rfl);have s0:=sS.cell (j:=0) (Nat.le_of_ble_eq_true rfl);obtain⟨aA,ac,rfl⟩:=aR.form;obtain⟨cA,cc,rfl⟩:=cR.form;obtain⟨sA,sc,rfl,hsf⟩:=id sR;simp at a0 c0 s0;have HcR:=Lib.hid cR;have HsR:=Lib.hid sR;have hmk:=hF.mark;have hgd:gf<wd.heap.size:=by have:=cS.lt;omega
       have HF:=Lib.hid hF;clear aR cR sR aS cS sS hsf hF;have haw:F.away.length≤400:=HMl.out.1.away
       go_upto_region 23 with fail
       refine Zt (fun w'=>Below wd.heap.size wd w') (fun w'=>Below wd.heap.size wd w') [11] (.q 0 (.q 1 (.q 2 (.q 3 (.q 4 (.q 5 (.q 6 (.q 7 (.q 8 (.q 9 (.l 10 (.l 11 .nil)))))))))))) ?_ ?_
       ·exact⟨Zad _,Zad _⟩
       intro W3 _ hS3
       repeat((first|refine pq (h:=⟨_,fun w' hS=>by(have x1:=Zaa hS _ _ a0;have x2:=Zaa hS _ _ c0;go_simp;exact rfl),?_⟩)|refine Zq ?_);simp only[sx])
       refine Zd fun K hK=>?_
       try simp only[sy]
       go_simp;have hb5:=Zac W3 (.cells #[.slice none 0 0,.slice none 0 0,.int .i64 0,.slice none 0 0] 28);have hk5:=Blk.new W3 28 #[.slice none 0 0,.slice none 0 0,.int .i64 0,.slice none 0 0];have hS5:=hS3.trans (hb5.mono hS3.size);refine hK.out _ _ (hS5) fun hS=>?_
       clear hK K
       try simp only[sx]
       repeat(refine Zq ?_;simp only[sx])
       refine Zc fun K hK=>?_
       try simp only[sy]
       refine Zh 4 hk5 ?_;intro w7 hk7 hg7;have hb7:Below wd.heap.size wd w7:=Zab hS5 hS5.size hg7 (by intro q e;injection e;have:=hS3.size;omega);obtain⟨gh,hgh⟩:∃gh,Hid (W3.heap.size=gh):=⟨_,rfl⟩;rw[hgh.out]at hk7;have hdg:wd.heap.size≤gh:=by have:=hS3.size;have:=hgh.out;omega
       clear hS5 hb5 hk5 hS3 hg7 a0 c0 hT;refine hK.out _ _ ?_;clear hK K
       try simp only[sx]
       refine Zah ?_;rw[hgh.out];clear hgh;have hgh7:=hk7.lt
       go_wp2_with fail
       go_loopw [14,15,76] (fun _ _ j wr=>∃(k:Nat) (vn:Value),k≤4∧j=.int .i64 k∧Blk wr gh 28 #[vn,.slice none 0 0,.int .i64 F.away.length,.slice cA F.codes.length cc]∧OwnSl 6 (RFrom (gh+1) RVw) 43 wr (gh+1) vn ((Zhg F).take k)∧Below gh w7 wr) (fun _ _ j _=>4-(intOf j).toNat)
       case atStart=>exact⟨0,_,by omega,rfl,hk7,OwnSl.nil _ _ _ _ _,Below.refl _ _⟩
       case round =>
        clear hk7;obtain⟨k,vn,hk,rfl,hB,hown,hbl7⟩:=hrel;have hbd:Below wd.heap.size wd wr:=hb7.trans (hbl7.mono hdg);have hzr:=hbd.size;have hgr:=hB.lt
        by_cases hlt:k<4
        ·obtain⟨X,hX⟩:∃X,Hid ((if (k:Int)=F.rogue then vw0 else view (Zan F k))=X):=⟨_,rfl⟩
         have Hn:Hid ((Zhg F).take (k+1)=(Zhg F).take k++[X]):=by
          show _=_;rw[Zsf hlt,hX.out]
         have Hlk:Hid (((Zhg F).take k).length=k):=by
          show _=_;rw[List.length_take,Zes];omega
         rw[hrg.out]at hX;generalize (Zhg F).take k=L at hown Hn Hlk;obtain⟨nA,nc,rfl⟩:=hown.form;have hkI:(k:Int)<4:=by omega
         go_upto_region 28 with fail
         refine Zo fun Wv hkv hsv hbv=>?_
         obtain⟨gv,hgv⟩:∃gv,Hid (wr.heap.size=gv):=⟨_,rfl⟩;rw[hgv.out]at hkv⊢;have hbv2:=hbd.trans (hbv.mono hzr);have hFv:=HF.out.below hbv2;have hTv:=HT1.out.mono (Zae HF.out.lim hbv2);have hgvl:=hkv.lt
         go_upto_if 82 with fail
         go_cut [15,82] (fun p _ w'=>∃u r A1 n1 c1 A2 n2 c2 A3 n3 c3 A4 n4 c4,p=.pointer (some ⟨gv,0,none⟩)∧Blk w' gv 43 #[.bool u,.int .i64 r,.slice A1 n1 c1,.slice A2 n2 c2,.slice A3 n3 c3,.slice A4 n4 c4]∧RVw (View.from w'.cell? (gv+1)) [.bool u,.int .i64 r,.slice A1 n1 c1,.slice A2 n2 c2,.slice A3 n3 c3,.slice A4 n4 c4] X∧Below gv Wv w')
         case first =>
          by_cases hkr:(k:Int)=rogue
          ·have hkb:((k:Int) != rogue)=false:=by simpa using hkr
           have hX0:Hid (X=vw0):=by show _=_;rw[←hX.out,if_pos hkr]
           have Hkr:=Lib.hid hkr;clear hkr
           go_wp2_with fail
           go_meet;refine⟨_,_,_,_,_,_,_,_,_,_,_,_,_,_,rfl,hkv,?_,Below.refl _ _⟩;rw[hX0.out];exact⟨_,_,_,_,rfl,RSl.nil _ _ _ _,RSl.nil _ _ _ _,RSl.nil _ _ _ _,RVec.nil _ _ _⟩
          ·have hkb:((k:Int) != rogue)=true:=by simpa using hkr
           have hX1:Hid (view (Zan F k)=X):=by show _=_;rw[←hX.out,if_neg hkr]
           have Hkr:=Lib.hid hkr;obtain⟨_,V,nS,nR⟩:=hFv.node k hlt;obtain⟨ms,jj,hNI⟩:=Zqd HMl.out.1 hlt;have hfit:=NFit.of hNI (HMl.out.1.mn k (by omega) (by omega));have hvw:=Zag o' Wv;have q1:=nS.cell (j:=1) (Nat.le_of_ble_eq_true rfl);have q3:=nS.cell (j:=3) (Nat.le_of_ble_eq_true rfl);have q4:=nS.cell (j:=4) (Nat.le_of_ble_eq_true rfl);have q6:=nS.cell (j:=6) (Nat.le_of_ble_eq_true rfl);have q7:=nS.cell (j:=7) (Nat.le_of_ble_eq_true rfl);have HQ:=Lib.hid (And.intro q1 (And.intro q3 (And.intro q4 (And.intro q6 q7))));have r1:=Lib.hid (nR.tx.mono hvw);have r2:=Lib.hid (nR.ba.reads RBat.mono (bs:=40) (by have:=hfit.bats;omega));have r3:=Lib.hid (nR.ta.reads RSlot.mono (bs:=40) (by have:=hfit.table;omega));have r4:=Lib.hid (nR.da.mono RCrt.mono hvw);have HTv:=Lib.hid (hTv.mono hvw);generalize Zan F k=N at *;clear hkr q1 q3 q4 q6 q7 nS nR hNI hfit hFv;have h4:k=0∨k=1∨k=2∨k=3:=by omega
           obtain⟨q1,q3,q4,q6,q7⟩:=HQ.out
           go_wp2_with fail
           refine(Zt4 gf (1+k*15) N V.tx V.ba V.ta V.da _ q1 q3 q4 q6 q7 r1.out r2.out r3.out r4.out HTv.out).mono ?_;rintro e w3 ⟨cs,rfl,hb3,vc,vb,vv,vp,hcs,x1,x2,x3,x4⟩
           obtain rfl:cs=#[.bool (view N).up,.int .i64 (view N).round,vc,vb,vv,vp]:=by
            rw[←Array.toArray_toList (xs:=cs),hcs]
           clear hcs;obtain⟨A1,c1,rfl,f1⟩:=id x1;obtain⟨A2,c2,rfl,f2⟩:=id x2;obtain⟨A3,c3,rfl,f3⟩:=id x3;obtain⟨A4,c4,rfl,f4⟩:=id x4;rw[hX1.out]at x1 x2 x3 x4⊢;have hkv3:=hkv.kept hb3;clear f1 f2 f3 f4 q1 q3 q4 q6 q7
           go_wp2_with (refine Zj 6 hkv3 ?_)
           intro w4 hk4 hg4;have hz3:=hb3.size;have hzv:Wv.heap.size=gv+1:=by rw[hsv,hgv.out]
           have q5:VLe (View.from w3.cell? Wv.heap.size) (View.from w4.cell? (gv+1)):=by
            rw[hzv];exact Zax hg4 (by omega)
           have hbl4:Below gv Wv w4:=Zab (hb3.mono (by omega)) (by omega) hg4 (by intro q e;injection e;omega)
           go_wp2_with fail
           go_meet;exact⟨_,_,_,_,_,_,_,_,_,_,_,_,_,_,rfl,hk4,⟨_,_,_,_,rfl,x1.mono RCrt.mono q5,x2.mono RBat.mono q5,x3.mono RSlot.mono q5,x4.mono q5⟩,hbl4⟩
         case rest =>
          obtain⟨u,r,A1,n1,c1,A2,n2,c2,A3,n3,c3,A4,n4,c4,rfl,hkv2,hrv,hbc⟩:=hcut;have hbwc:Below wr.heap.size wr wc:=hbv.trans (by rw[hgv.out];exact hbc);have hB2:=hB.kept hbwc;have hown2:=hown.kept (RFrom.mono RVw.mono) hbwc;have hlto:=hown.lt;have hzc:=hbwc.size
          have rR:RFrom (gh+1) RVw (View.but wc.cell? (Value.slice nA L.length nc).ownBlock) [.bool u,.int .i64 r,.slice A1 n1 c1,.slice A2 n2 c2,.slice A3 n3 c3,.slice A4 n4 c4] X :=
           RVw.mono _ _ _ _ hrv (Zbb (by have:=hgv.out;omega) (fun g hg=>by have:=(hlto g hg).2;have:=hgv.out;omega))
          have x0:=hB2.cell 0;simp at x0;clear hkv hbv hbv2 hFv hTv hB hrv hX
          go_wp2_with (first|(refine wpList_load_row rfl 43 _ rfl _ rfl _ _ _ _ hkv2 Tryz.underlying43 rfl (by kernel_rfl) ?_)|(at_builtin;go_loud (refine Za2 (n:=140737488355328) (W:=wc) (xs:=L) (RFrom.mono RVw.mono) X [.bool u,.int .i64 r,.slice A1 n1 c1,.slice A2 n2 c2,.slice A3 n3 c3,.slice A4 n4 c4] Zx2 _ _ rfl rfl rfl hown2 (Below.refl _ _) (by omega) rfl rfl rfl rfl rR (Nat.le_refl _) (by rw[Hlk.out];omega) (by rw[Hlk.out];omega) ?_)))
          intro v2 w4 ho4 hb4 hg4;have hneo:∀q,(Value.slice nA L.length nc).ownBlock=some q→gh+1≤q:=fun q hq=>(hlto q hq).1
          have hB4:=hB2.grown hg4 (fun e=>by have:=hneo _ e.symm;omega);have hLl:(L++[X]).length=k+1:=by rw[List.length_append,Hlk.out];rfl
          obtain⟨mA,mc,hv2⟩:=ho4.form;rw[hLl]at hv2;subst hv2;clear rR hown2 hB2 x0 hkv2 hLl
          go_wp2_with (refine Zai (n:=1) rfl rfl rfl rfl (by kernel_rfl) rfl hB4 (by simp) rfl ?_)
          intro w5 hB5 hg5;have hB5:Blk w5 gh 28 #[.slice mA (k+1) mc,.slice none 0 0,.int .i64 F.away.length,.slice cA F.codes.length cc]:=hB5;have ho5:=ho4.low RVw.mono hg5 (by omega);rw[←Hn.out]at ho5;have hbl4:Below gh w7 w4:=Zab (hbl7.trans (hbwc.mono (by omega))) (by omega) hg4 (fun q hq=>by have:=hneo q hq;omega);have hbl5:Below gh w7 w5:=Zab hbl4 (by have:=hB4.lt;omega) hg5 (by intro q e;injection e;omega);go_wp2;go_roundw
          case rel=>exact⟨k+1,_,by omega,by go_num,hB5,ho5,hbl5⟩
          case measure=>simp[intOf];omega
        ·have hkI:¬(k:Int)<4:=by omega
         have hk4:k=4:=by omega
         rw[hk4,show(Zhg F).take 4=Zhg F from rfl]at hown;have rv:=hown.reads_from (bs:=112) RVw.mono (by rw[Zes];omega);obtain⟨nA,nc,rfl⟩:=hown.form;obtain⟨nL,hnL⟩:∃n,Hid ((Zhg F).length=n):=⟨_,rfl⟩;rw[hnL.out]at hB rv;have hrs:RSigns wd.cell? (.slice sA F.signs.length sc) F.signs:=HsR.out.mono RSign.mono (Zag _ _)
         have hrc:RIs (View.from wd.cell? gf) (.slice cA F.codes.length cc) F.codes:=by
          have h1:RSl 1 RI 8 (View.from wd.cell? gf) (.slice cA F.codes.length cc) F.codes:=Row.from_ (fun _ _ _ _ r=>r) HcR.out (by have:=HMl.out.2.2;omega) (fun g hg=>Hnew.out g _ hg);exact Zrh h1
         have s1:=Zaa hbd _ _ s0;have Hrv:=Lib.hid rv;have Hrc:=Lib.hid hrc;have HMs:=Lib.hid HMl.out.2.1;obtain⟨_,hsn1,hsn2,hsel⟩:=hrs.at;have Hsel:=Lib.hid hsel;obtain⟨wz,hwz⟩:∃wz:World,wz=wr:=⟨_,rfl⟩;subst hwz;clear hown hsel hk hk4 hrs hrc rv HMl HF HT1 HsR HcR s0
         go_wp2_with fail
         go_loopw [17,101] (fun _ j wr=>∃(k:Nat) (vs:Value),k≤F.signs.length∧j=.int .i64 k∧Blk wr gh 28 #[.slice nA nL nc,vs,.int .i64 F.away.length,.slice cA F.codes.length cc]∧OwnSl 4 (RFrom wz.heap.size RSign) 72 wr wz.heap.size vs (F.signs.take k)∧Chg [gh] wz wr) (fun _ j _=>F.signs.length-(intOf j).toNat)
         case atStart=>exact⟨0,_,by omega,rfl,hB,OwnSl.nil _ _ _ _ _,Chg.refl _ _⟩
         case round =>
          clear hB;obtain⟨k,vs,hk,rfl,hB,hown,hch⟩:=hrel;have hbz:Below gh wz wr:=hch.below (by simp) (by omega);have hzr2:=hch.size
          by_cases hlt:k<F.signs.length
          ·obtain⟨b0,o1,d0,rfl,y0,y1,y2,y3,yd⟩:=Hsel.out k hlt;have hltI:(k:Int)<F.signs.length:=by omega
           have hbdr:Below wd.heap.size wd wr:=hbd.trans (hbz.mono hdg);have z0:=Zaa hbdr _ _ y0;have z1:=Zaa hbdr _ _ y1;have z2:=Zaa hbdr _ _ y2;have z3:=Zaa hbdr _ _ y3;have yd1:=yd.mono (Zaa hbdr);have Hn:=Lib.hid (List.take_succ_eq_append_getElem hlt);have Hlk:Hid ((F.signs.take k).length=k):=by show _=_;rw[List.length_take];omega
           clear y0 y1 y2 y3 yd;generalize F.signs.take k=L at hown Hn Hlk;generalize F.signs[k]=y at *;obtain⟨dA,dc,rfl,hfd⟩:=id yd1;obtain⟨vA,vc,rfl⟩:=hown.form;clear hfd
           go_upto_region 35 with fail
           refine Zo fun Wq hkq hsq hbq=>?_
           have yd2:=yd1.mono (Zaa hbq);have hzq:=hbq.size;have x3:=hkq.cell 3;simp at x3
           go_wp2_with fail
           clear x3;refine(Zci _ y.slot.digest _ yd2).mono ?_;rintro e w3 ⟨d2,rfl,hb3,od⟩;obtain⟨eA,ec,rfl⟩:=od.form;have hkq3:=hkq.kept hb3;have hz3:=hb3.size;have rd3:=od.from_ (bs:=1) (b0:=Wq.heap.size) (by have:=yd2.len;omega) (Nat.le_refl _)
           go_wp2_with (refine Zai (n:=1) rfl rfl rfl rfl (by kernel_rfl) rfl hkq3 (Nat.le_of_ble_eq_true rfl) rfl ?_)
           intro w4 hk4 hg4;have hk4:Blk w4 wr.heap.size 72 #[.int .i64 y.node,.int .i64 y.slot.author,.int .i64 y.slot.round,.slice eA y.slot.digest.length ec]:=hk4;have rd4:=rd3.mono (Zax hg4 (by omega));have hbw4:Below wr.heap.size wr w4:=Zab (hbq.trans (hb3.mono hzq)) (by omega) hg4 (by intro q e;injection e;omega);have hB4:=hB.kept hbw4;have hown4:=hown.kept (RFrom.mono RSign.mono) hbw4;have hlto:=hown.lt
           have rR:RFrom wz.heap.size RSign (View.but w4.cell? (Value.slice vA L.length vc).ownBlock) [.int .i64 y.node,.int .i64 y.slot.author,.int .i64 y.slot.round,.slice eA y.slot.digest.length ec] y :=
            RSign.mono _ _ _ _ ⟨_,rfl,rd4⟩ (Zbb (by omega) (fun g hg=>by have:=(hlto g hg).2;omega))
           have x1:=hB4.cell 1;simp at x1;have hz4:=hbw4.size;clear rd3 rd4 od hkq hkq3 hB hown yd1 yd2 z0 z1 z2 z3 hb3 hbq
           go_wp2_with (first|(refine wpList_load_row rfl 72 _ rfl _ rfl _ _ _ _ hk4 Tryz.underlying72 rfl (by kernel_rfl) ?_)|(at_builtin;go_loud (refine Za2 (n:=140737488355328) (W:=w4) (xs:=L) (RFrom.mono RSign.mono) y [.int .i64 y.node,.int .i64 y.slot.author,.int .i64 y.slot.round,.slice eA y.slot.digest.length ec] Zny _ _ rfl rfl rfl hown4 (Below.refl _ _) (by omega) rfl rfl rfl rfl rR (Nat.le_refl _) (by rw[Hlk.out];have:=HMs.out;omega) (by rw[Hlk.out];have:=HMs.out;omega) ?_)))
           intro v2 w5 ho5 hb5 hg5;have hneo:∀q,(Value.slice vA L.length vc).ownBlock=some q→wz.heap.size≤q:=fun q hq=>(hlto q hq).1
           have hB5:=hB4.grown hg5 (fun e=>by have:=hneo _ e.symm;omega);have hLl:(L++[y]).length=k+1:=by rw[List.length_append,Hlk.out];rfl
           obtain⟨mA,mc,hv2⟩:=ho5.form;rw[hLl]at hv2;subst hv2;clear rR hown4 hB4 x1 hk4 hLl
           go_wp2_with (refine Zai (n:=1) rfl rfl rfl rfl (by kernel_rfl) rfl hB5 (Nat.le_of_ble_eq_true rfl) rfl ?_)
           intro w6 hB6 hg6;have hB6:Blk w6 gh 28 #[.slice nA nL nc,.slice mA (k+1) mc,.int .i64 F.away.length,.slice cA F.codes.length cc]:=hB6;have ho6:=ho5.low RSign.mono hg6 (by omega);rw[←Hn.out]at ho6
           have hch6:Chg [gh] wz w6:=by
            have c1:Chg [gh] wz w5:=Zn2 (hch.trans (.of_below hbw4 (Nat.le_refl _))) hg5 (fun q hq=>.inr (hneo q hq));exact Zn2 c1 hg6 (fun q hq=>.inl (by injection hq with hq;subst hq;simp))
           go_wp2;go_roundw
           case rel=>exact⟨k+1,_,by omega,by go_num,hB6,ho6,hch6⟩
           case measure=>simp[intOf];omega
          ·have hltI:¬(k:Int)<F.signs.length:=by omega
           have hke:k=F.signs.length:=by omega
           rw[hke,List.take_length]at hown;have rs:=hown.reads_from (bs:=48) RSign.mono (by have:=HMs.out;omega);obtain⟨vA,vc,rfl⟩:=hown.form;have hbdr:Below wd.heap.size wd wr:=hbd.trans (hbz.mono hdg);have hk0r:=hk0d.below hbdr (by omega);have hbwr:Below w.heap.size w wr:=hbwd.trans (hbdr.mono (by omega));have Hrs:=Lib.hid rs;clear hown rs hke Hsel
           go_wp2_with (first|(refine wpList_load_row rfl 28 _ rfl _ rfl _ _ _ _ hB Tryz.underlying28 rfl (by kernel_rfl) ?_)|(refine Zj 4 hk0r ?_))
           intro w9 hk9 hg9;go_wp2;refine bodyPost_ret (Zal rfl rfl (by kernel_rfl) (by kernel_rfl) hk9 rfl) rfl ?_;refine⟨_,by rw[hE3.out];rfl,Zab hbwr hbwr.size hg9 (by intro q e;injection e;omega),?_⟩;rw[hO3.out];refine⟨_,_,_,rfl,Hrv.out.mono RVw.mono ?_,Hrs.out.mono RSign.mono ?_,Hrc.out.mono ?_⟩
           ·exact((Zil (B:=gh+1) hch (by simp)).trans (Zax hg9 (by omega))).trans (Za8 (by omega))
           ·exact(Zax hg9 (by omega)).trans (Za8 (by omega))
           ·exact((Za0 _ (Zaa hbdr)).trans (Zax hg9 (by omega))).trans (Za8 (by omega))
end Fl
end Go.Proofs.YtinibgklgehdpaaGreatDoor
