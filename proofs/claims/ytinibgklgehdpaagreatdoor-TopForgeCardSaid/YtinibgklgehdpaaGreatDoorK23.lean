/- A part of what the last text stands on. -/
import Derived.Test.YtinibgklgehdpaaGreatDoorK22
namespace Go.Proofs.YtinibgklgehdpaaGreatDoor
open Go.ChangeShapes Go.WideShapes Go.ChangeAt Go.RowKit Qa Qb Qc
set_option linter.all false
set_option maxHeartbeats 20000000
set_option maxRecDepth 100000
variable{P:Program}{w W wr:World}{a:Act}{o:Oper}{ops:Array Oper}{rest:List Oper}{Q:Exit→Act→World→Prop}{v:Value}{cur:Array Value}{A:Option Addr}{h:View}{e t te:TypeId}{i j g off sz c:Nat}{l:List Crt}
namespace Fl
structure DW where
 x:Crt
 ok:(0≤x.hdr.author∧x.hdr.author≤3)∧0≤x.hdr.round∧x.hdr.round≤1048576
 b:Option Addr
 bc:Nat
 p:Option Addr
 pc:Nat
 v:Option Addr
 vc:Nat
instance:Inhabited DW:=⟨⟨⟨⟨0,0,[],[]⟩,[]⟩,by decide,none,0,none,0,none,0⟩⟩
def encW(y:DW):List Value:=[.int .i64 y.x.hdr.author,.int .i64 y.x.hdr.round,.slice y.b y.x.hdr.batches.length y.bc,.slice y.p y.x.hdr.parents.length y.pc,.slice y.v y.x.voters.length y.vc]
theorem Zfa(y:DW):(encW y).length=5:=rfl
theorem Zey(ys:List DW):(ys.flatMap encW).length=ys.length*5:=by
 induction ys with
 |nil=>rfl
 |cons y ys ih=>rw[List.flatMap_cons,List.length_append,ih,Zfa,List.length_cons];omega
theorem Zj3{ys:List DW}(hi:i<ys.length)(hj:j<5):(ys.flatMap encW)[i*5+j]?=(encW ys[i])[j]?:=by
 induction ys generalizing i with
 |nil=>simp at hi
 |cons y ys ih =>
  rw[List.flatMap_cons];cases i with
  |zero=>rw[List.getElem?_append_left (by rw[Zfa];omega)];simp
  |succ i =>
   rw[List.getElem?_append_right (by rw[Zfa];omega),Zfa,show(i+1)*5+j-5=i*5+j by omega,ih (by simpa using hi)];rfl
def OkW(c:Crt):Prop:=(0≤c.hdr.author∧c.hdr.author≤3)∧0≤c.hdr.round∧c.hdr.round≤1048576
theorem okW{c:Crt}(h:hF c.hdr=0):OkW c:=by
 unfold hF Zb3 at h;split at h
 ·rename_i h1;simp[inB]at h1;unfold OkW;omega
 ·cases h
structure LW (h:View) (v:Value) (l:List Crt) (ys:List DW):Prop where
 map:ys.map (·.x)=l
 read:∀y∈ys,RCrt h (encW y) y.x
 cell:∀b o n c,v=.slice (some ⟨b,o,none⟩) n c→∀q u,(ys.flatMap encW)[q]?=some u→h ⟨b,o+q,none⟩=some u
theorem wcrts(r:RCrts h v l)(ok:∀c∈l,OkW c):∃ys,LW h v l ys:=by
 obtain⟨A,c,rfl,h1,h2,h3,h4,h5⟩:=r
 have hex:∀i (hi:i<l.length),∃y:DW,y.x=l[i]∧RCrt h (encW y) y.x∧∀b o,A=some ⟨b,o,none⟩→∀j,j<5→h ⟨b,o+i*5+j,none⟩=(encW y)[j]?:=fun i hi=>by
  obtain⟨b,o,ea,hc⟩:=h5 (by omega);obtain⟨cs,_,hcell,vb,vp,vv,rfl,r1,r2,r3⟩:=hc i hi;obtain⟨bA,bc,rfl,_⟩:=id r1;obtain⟨pA,pc,rfl,_⟩:=id r2;obtain⟨vA,vc,rfl,_⟩:=id r3;refine⟨⟨l[i],ok _ (List.getElem_mem hi),bA,bc,pA,pc,vA,vc⟩,rfl,⟨_,_,_,rfl,r1,r2,r3⟩,fun b' o' ea' j hj=>?_⟩;rw[ea]at ea';injection ea' with ea';injection ea' with eb eo _;subst eb eo;exact hcell j hj
 have hlen:(List.ofFn fun i:Fin l.length=>Classical.choose (hex i i.2)).length=l.length:=by simp
 have hget:∀i (hi:i<l.length),(List.ofFn fun i:Fin l.length=>Classical.choose (hex i i.2))[i]'(by omega)=Classical.choose (hex i hi):=fun i hi=>by simp
 refine⟨List.ofFn fun i:Fin l.length=>Classical.choose (hex i i.2),?_,?_,?_⟩
 ·apply List.ext_getElem
  ·simp
  ·intro i h1 h2;rw[List.getElem_map,hget i h2];exact(Classical.choose_spec (hex i h2)).1
 ·intro y hy;obtain⟨i,hi,rfl⟩:=List.getElem_of_mem hy;rw[hget i (by omega)];exact(Classical.choose_spec (hex i (by omega))).2.1
 ·intro b o n c' e q u hq;injection e with e1 _ _
  have hql:q<l.length*5:=by
   have:=(List.getElem?_eq_some_iff.1 hq).1;rw[Zey,hlen]at this;exact this
  have hi:q/5<l.length:=by omega
  have hj:q%5<5:=Nat.mod_lt _ (by decide);have hqq:q=q/5*5+q%5:=by omega
  rw[hqq,Zj3 (by omega) hj,hget _ hi]at hq;rw[←hq,←(Classical.choose_spec (hex (q/5) hi)).2.2 b o e1 (q%5) hj]
  congr 2
  omega
def RowW(w:World)(B:Nat)(v:Value)(ys:List DW):Prop:=w.ownsRow B 64 5 v ys.length (ys.flatMap encW)
theorem Zhs{bytes base n m:Nat}{xs news:List Value}(hE:Elem P t e sz bytes)(s y:Operand)(hgd:o.guard=none)(ho:o.op=.call {callee:=.builtin .append,args:=#[s,y],argTypes:=#[t,t] })(hs:a.eval s=v)(hown:wr.ownsRow base e sz v n xs)(hbase:base≤wr.heap.size)(hx:a.eval y=.slice A m c)(hl:news.length=m*sz)(hA:A=none→m=0∧c=0)(hnews:∀ad,A=some ad→∀j u,news[j]?=some u→wr.cell? (ad.add j)=some u)(h1:∀u∈news,u.oneCell'=true)(h63:n+m≤maxLen)(hbytes:(n+m)*bytes≤140737488355328)(h:∀v' w',w'.ownsRow base e sz v' (n+m) (xs++news)→wr.grownBy w' v.ownBlock→wpList P ops Q rest (a.put o.dst v') w'):wpList P ops Q (o::rest) a wr:=by
 obtain⟨ht,hsz,i,z,hi,hz0,hz1,hz2,hzs⟩:=hE;exact Zcv hgd s y t ho base e i z sz bytes ht hi hz0 hz1 hz2 hzs hsz v n xs hs hown A m c news hx hl hA hnews h1 h63 hbytes hbase h
structure ClW (h:View) (w:World) (l:List Crt) (w':World) (v:Value):Prop where
 below:Below w.heap.size w w'
 row:∃ys:List DW,RowW w' w.heap.size v ys∧ys.map (·.x)=l∧∀y∈ys,RCrt h (encW y) y.x
theorem Ztl(h:View)(v:Value)(l:List Crt)(w:World)(hle:VLe h w.cell?)(hr:RCrts h v l)(ok:∀c∈l,OkW c) :
 Calls Tryz.prog 151 #[v] w fun e w'=>∃v',e=.returned v'∧ClW h w l w' v':=by
 obtain⟨ys,hW⟩:=wcrts hr ok;have hlen:ys.length=l.length:=by rw[←hW.map,List.length_map]
 obtain⟨A,c,rfl,q1,q2,q3,q4,q5⟩:=hr;have e1:=@Lib.run_eql_slice_nil Tryz.prog;have H3:=Lib.hid q3;have HA:=Lib.hid q4
 have hnews:Hid (∀ad,A=some ad→∀j u,(ys.flatMap encW)[j]?=some u→w.cell? (ad.add j)=some u):=fun ad e j u hj=>by
  have h1:=(List.getElem?_eq_some_iff.1 hj).1;rw[Zey]at h1;obtain⟨b,o,ea,_⟩:=q5 (by omega);have:=hW.cell b o l.length c (by rw[ea]) j u hj;rw[ea]at e;obtain rfl:=Option.some.inj e;rw[Zbs];exact hle _ _ this
 clear q3 q4 q5;cases A with
 |none =>
  have hc:=HA.out rfl;have hl0:l=[]:=List.eq_nil_of_length_eq_zero (by omega);subst hl0;have hy0:ys=[]:=List.eq_nil_of_length_eq_zero hlen;subst hy0;subst hc;clear hlen
  go_enter Tryz.func151,Tryz.ntmps151
  go_wp2;go_ret;exact⟨_,rfl,Below.refl _ _,[],World.ownsRow_nil _ _ _ _,rfl,fun y hy=>by cases hy⟩
 |some a =>
  have hread:=Lib.hid hW.read;have hmap:=Lib.hid hW.map;clear hW;have hb0:=Zac w (.cells #[] 64);have hmade:(w.alloc (.cells #[] 64)).ownsRow w.heap.size 64 5 (.slice (some ⟨w.heap.size,0,none⟩) 0 0) 0 []:=World.ownsRow_made w #[] 0 (Nat.le_refl _) (Nat.zero_le _) rfl
  have hone:Hid (∀u∈ys.flatMap encW,u.oneCell'=true):=fun u hu=>by
   obtain⟨y,_,hy⟩:=List.mem_flatMap.1 hu;unfold encW at hy;simp at hy
   rcases hy with rfl|rfl|rfl|rfl|rfl<;>rfl
  have hfl:=Lib.hid (Zey ys);have Hlen:=Lib.hid hlen;clear hlen;have hn2:Hid (∀ad,(some a:Option Addr)=some ad→∀j u,(ys.flatMap encW)[j]?=some u→(w.alloc (.cells #[] 64)).cell? (ad.add j)=some u):=fun ad e j u hj=>Zaa hb0 _ _ (hnews.out ad e j u hj)
  have hz:w.heap.size≤(w.alloc (.cells #[] 64)).heap.size:=hb0.size
  go_enter Tryz.func151,Tryz.ntmps151
  go_wp2_with (at_builtin;refine Zhs Zk7 _ _ rfl rfl rfl hmade hz rfl (by rw[hfl.out,Hlen.out]) (fun h=>by cases h) hn2.out hone.out (Zbw (by have:=H3.out;omega)) (by have:=H3.out;omega) ?_)
  intro v' w1 ho hg;go_wp2;go_ret;have hbl:Below w.heap.size w w1:=Zab hb0 hz hg (fun k e=>Nat.le_of_eq (Option.some.inj e));exact⟨v',rfl,hbl,ys,by unfold RowW;rw[Hlen.out];simpa using ho,hmap.out,hread.out⟩
def Zfc(cur:Array Value)(off:Nat)(zs:List Value):Array Value:=(cur.toList.take off++zs++cur.toList.drop (off+zs.length)).toArray
theorem Zh3{ty:TypeId}{z:Value}{n:Nat}(ht:P.underlying t=some (.slice e))(hv:∀w,(zeroValue e).run P w=.ok z w)(hzs:z.cells.size=sz)(h1:(z.cells.toList.all fun u=>u.oneCell')=true)(hsz:0<sz)(hb:Blk w g te cur)(hn:0<n)(hfit:off+n*sz≤cur.size) :
 (Builtin.clear_ #[t] ty #[.slice (some ⟨g,off,none⟩) n c]).run P w=.ok (.tuple #[]) (w.setRow g (Zfc cur off (Builtin.zeroCells z.cells n).toList)):=by
 have hzl:(Builtin.zeroCells z.cells n).toList.length=n*sz:=by unfold Builtin.zeroCells;simp[hzs]
 have hone:∀v∈(Builtin.zeroCells z.cells n).toList,v.oneCell'=true:=fun v hv=>by
  unfold Builtin.zeroCells at hv
  simp at hv
  obtain⟨i,_,rfl⟩:=hv
  have hlt:i%z.cells.size<z.cells.size:=Nat.mod_lt _ (by omega)
  rw[getElem!_pos z.cells _ hlt]
  exact List.all_eq_true.1 h1 _ (by simp)
 have hst:=run_storeCells_at P g off te (Builtin.zeroCells z.cells n).toList 0 cur w hb (by rw[hzl];omega) hone
 simp only[Nat.add_zero]at hst
 obtain⟨m,rfl⟩:∃m,n=m+1:=⟨n-1,by omega⟩
 unfold Zfc
 simp[Builtin.clear_,run_underlying ht,hv,hst]
theorem Zli{zs:List Value}(hfit:off+zs.length≤cur.size):(Zfc cur off zs).size=cur.size:=by
 unfold Zfc;simp;omega
theorem Zlh{zs:List Value}(hfit:off+zs.length≤cur.size):(Zfc cur off zs).toList.take off=cur.toList.take off:=by
 unfold Zfc;simp[List.take_append];have:off≤cur.size:=by omega
 simp[Nat.min_eq_left this,List.take_take]
theorem Zkm(cs:List Value)(x:Crt)(r:Int)(g:Nat)(w:World)(hc:w.cell? ⟨g,0,none⟩=some (.int .i64 r))(hx:RCrt w.cell? cs x) :
 Calls Tryz.prog 153 (#[.agg cs.toArray]++#[.pointer (some ⟨g,0,none⟩)]) w fun e w'=>e=.returned (.bool (decide (x.hdr.round<r)))∧Below w.heap.size w w':=by
 obtain⟨ub,up,uv,rfl,_,_,_⟩:=hx;show Calls Tryz.prog 153 #[.agg #[.int .i64 x.hdr.author,.int .i64 x.hdr.round,ub,up,uv],.pointer (some ⟨g,0,none⟩)] w _;have hbb:=Zac w (.cells #[.int .i64 x.hdr.author,.int .i64 x.hdr.round,ub,up,uv] 64);have g0:=Zaa hbb _ _ hc;clear hc;generalize x.hdr.author=x0 at hbb g0⊢;generalize x.hdr.round=y0 at hbb g0⊢
 go_enter Tryz.func153,Tryz.ntmps153
 by_cases h1:y0<r
 ·go_wp2;go_ret;exact⟨Zap (by simp[h1]),hbb⟩
 ·go_wp2;go_ret;exact⟨Zap (by simp[h1]),hbb⟩
def Zdm(r:Int)(y:DW):Bool:= !decide (y.x.hdr.round<r)
theorem Zrv{n q:Nat}{xs:List Value}(h:cur.toList.take n=xs)(hq:q<n):cur[q]?=xs[q]?:=by
 rw[←h,List.getElem?_take_of_lt hq];simp
theorem Zun{q:Nat}(hb:Blk w g 64 cur){y:DW}(hc:∀j,j<5→cur[q+j]?=(encW y)[j]?):w.cell? ⟨g,q,none⟩=some (.int .i64 y.x.hdr.author)∧w.cell? ⟨g,q+1,none⟩=some (.int .i64 y.x.hdr.round)∧w.cell? ⟨g,q+2,none⟩=some (.slice y.b y.x.hdr.batches.length y.bc)∧w.cell? ⟨g,q+3,none⟩=some (.slice y.p y.x.hdr.parents.length y.pc)∧w.cell? ⟨g,q+4,none⟩=some (.slice y.v y.x.voters.length y.vc):=by
 refine⟨?_,?_,?_,?_,?_⟩<;>rw[hb.cell]
 ·exact hc 0 (by decide)
 ·exact hc 1 (by decide)
 ·exact hc 2 (by decide)
 ·exact hc 3 (by decide)
 ·exact hc 4 (by decide)
theorem Zsn{w0:World}{B:Nat}{ys:List DW}(h:RowW W B v ys)(hr:∀y∈ys,RCrt w0.cell? (encW y) y.x)(hv:VLe w0.cell? W.cell?)(hl:ys.length≤400):RCrts W.cell? v (ys.map (·.x)):=by
 have hlen:(ys.map (·.x)).length=ys.length:=List.length_map _
 rcases h.2 with ⟨rfl,hn⟩|⟨g,cap,cur,rfl,hbg,hg,hnc,hcm,hcs,htake⟩
 ·have:ys=[]:=List.eq_nil_of_length_eq_zero hn;subst this;exact⟨none,0,rfl,Nat.le_refl _,Nat.zero_le _,by simp,fun _=>rfl,fun h=>by simp at h⟩
 ·refine⟨some ⟨g,0,none⟩,cap,by rw[hlen],by rw[hlen];exact hnc,hcm,by rw[hlen];omega,(fun h=>by cases h),fun h0=>⟨g,0,rfl,fun i hi=>?_⟩⟩;rw[hlen]at hi;refine⟨encW ys[i],rfl,fun j hj=>?_,?_⟩
  ·rw[show W.cell? ⟨g,0+i*5+j,none⟩=cur[0+i*5+j]? from Blk.cell (show Blk W g 64 cur from hg) _,Nat.zero_add,Zrv htake (by omega)];exact Zj3 hi hj
  ·rw[List.getElem_map];exact RCrt.mono _ _ _ _ (hr _ (List.getElem_mem hi)) hv
structure DelI (ys:List DW) (r:Int) (cap q:Nat) (K:List DW) (cur:Array Value):Prop where
 k:K=(ys.take q).filter (Zdm r)
 lt:K.length<q
 size:cur.size=cap*5
 low:cur.toList.take (K.length*5)=K.flatMap encW
 high:∀t,q*5≤t→t<ys.length*5→cur[t]?=(ys.flatMap encW)[t]?
structure DelW (B:Nat) (W w':World) (v:Value) (zs:List DW):Prop where
 below:Below B W w'
 row:RowW w' B v zs
theorem Zg6{ys:List DW}{q:Nat}(hq:q<ys.length)(r:Int):(ys.take (q+1)).filter (Zdm r)=(ys.take q).filter (Zdm r)++(if Zdm r ys[q]then [ys[q]]else []):=by
 rw[List.take_succ_eq_append_getElem hq,List.filter_append]
 congr 1
 cases h:Zdm r ys[q]<;>simp[List.filter,h]
theorem DelI.skip{ys:List DW}{r:Int}{cap q:Nat}{K:List DW}{y:DW}(h:DelI ys r cap q K cur)(hn:(ys.take (q+1)).filter (Zdm r)=(ys.take q).filter (Zdm r)++(if Zdm r y then [y]else []))(hk:Zdm r y=false):DelI ys r cap (q+1) K cur :=
 ⟨by rw[hn,hk,←h.k];simp,Nat.lt_succ_of_lt h.lt,h.size,h.low,fun t h1 h2=>h.high t (by omega) h2⟩
theorem DelI.put{ys:List DW}{r:Int}{cap q:Nat}{K:List DW}{y:DW}(h:DelI ys r cap q K cur)(hn:(ys.take (q+1)).filter (Zdm r)=(ys.take q).filter (Zdm r)++(if Zdm r y then [y]else []))(hk:Zdm r y=true)(hq:q<cap):DelI ys r cap (q+1) (K++[y]) (cur.toList.take (K.length*5)++(encW y++cur.toList.drop (K.length*5+5))).toArray:=by
 have hlt:=h.lt;have hsz:=h.size;have hcl:cur.toList.length=cap*5:=by simpa using hsz
 have hkl:(K.flatMap encW).length=K.length*5:=Zey K;refine⟨by rw[hn,hk,←h.k];simp,by simp;omega,?_,?_,fun t h1 h2=>?_⟩
 ·rw[h.low];simp only[List.size_toArray,List.length_append,hkl,Zfa,List.length_drop,hcl];omega
 ·rw[h.low,←List.append_assoc];have e:(K++[y]).flatMap encW=K.flatMap encW++encW y:=by simp
  have hl:(K.flatMap encW++encW y).length=(K++[y]).length*5:=by simp only[List.length_append,hkl,Zfa,List.length_singleton];omega
  rw[e,←hl];exact List.take_left
 ·rw[h.low,←h.high t (by omega) h2];have h3:K.length*5+5≤t:=by omega
  rw[List.getElem?_toArray,List.getElem?_append_right (by rw[hkl];omega),hkl,List.getElem?_append_right (by rw[Zfa];omega),Zfa,List.getElem?_drop,show K.length*5+5+(t-K.length*5-5)=t by omega];simp
theorem zeroC(w:World):(zeroValue 64).run Tryz.prog w=.ok (.agg #[.int .i64 0,.int .i64 0,.slice none 0 0,.slice none 0 0,.slice none 0 0]) w:=by kernel_rfl
theorem Zqw(v:Value)(ys:List DW)(w0 W:World)(B g:Nat)(r:Int)(hrow:RowW W B v ys)(hread:∀y∈ys,RCrt w0.cell? (encW y) y.x)(hb0:Below w0.heap.size w0 W)(hc:W.cell? ⟨g,0,none⟩=some (.int .i64 r))(hgB:g<B)(hBW:B≤W.heap.size)(h4:ys.length≤400)(h0B:w0.heap.size≤B) :
 Calls Tryz.prog 152 #[v,.func (.func 153) #[] #[.pointer (some ⟨g,0,none⟩)]] W fun e w'=>∃v',e=.returned v'∧DelW B W w' v' (ys.filter (Zdm r)):=by
 have hreads:=Zsn hrow hread (Zaa hb0) h4;have eg:=enters_of Tryz.func153 (by kernel_rfl) rfl;have hz0:=hb0.size;have Hread:=Lib.hid hread
 obtain⟨vA,vc,hvf⟩:∃A c,v=.slice A ys.length c:=by
  rcases hrow.2 with ⟨e,hn⟩|⟨g',cap,cur,e,_⟩
  ·exact⟨none,0,by rw[e,hn]⟩
  ·exact⟨_,_,e⟩
 subst hvf;obtain⟨QK,hQK⟩:∃q,Hid (ys.filter (Zdm r)=q):=⟨_,rfl⟩;rw[hQK.out];clear hread
 go_enter Tryz.func152,Tryz.ntmps152
 go_wp2_with fail
 refine(Zkz 153 #[.pointer (some ⟨g,0,none⟩)] (fun x=>decide (x.hdr.round<r)) eg _ (ys.map (·.x)) W hreads (fun W3 cs x hW hx=>Zkm cs x r g W3 (Zaa hW _ _ hc) hx)).mono ?_;rintro e w1 ⟨rfl,hb1⟩;have hz1:=hb1.size
 rcases Zfl (fun x:Crt=>decide (x.hdr.round<r)) (ys.map (·.x))with ⟨p1,p2⟩|⟨k,hk,p1,p2,p3⟩
 ·rw[p1]
  have hall:QK=ys:=by
   rw[←hQK.out,List.filter_eq_self];intro y hy;rw[List.any_eq_false]at p2;have:=p2 y.x (List.mem_map.2 ⟨y,hy,rfl⟩);unfold Zdm;simpa using this
  have hres:DelW B W w1 (.slice vA ys.length vc) QK:=⟨hb1.mono hBW,by rw[hall];exact hrow.kept (row:=none) (Zak none hb1) (by cases (Value.slice vA ys.length vc).ownBlock<;>simp)⟩
  clear p1 p2 hall hreads hrow;go_wp2;go_ret;exact⟨_,rfl,hres⟩
 ·rw[p1];have hk':k<ys.length:=by simpa using hk
  rcases hrow.2 with ⟨e,hn⟩|⟨gb,cap,cur,e,hbg,hg,hnc,hcm,hcs,htake⟩
  ·omega
  injection e with e1 _ e3;subst e1 e3;have hB1:Blk w1 gb 64 cur:=(show Blk W gb 64 cur from hg).kept hb1
  have hI0:DelI ys r vc (k+1) (ys.take k) cur:=by
   have hkeep:(ys.take k).filter (Zdm r)=ys.take k:=by
    rw[List.filter_eq_self];intro y hy;obtain⟨i,hi,rfl⟩:=List.getElem_of_mem hy;have hi2:i<k:=by simp at hi;omega
    have:=p3 i (by simp;omega) hi2;unfold Zdm;simpa using this
   have hl:(ys.take k).length=k:=by simp;omega
   refine⟨?_,by omega,hcs,?_,fun t h1 h2=>Zrv htake h2⟩
   ·rw[Zg6 hk',hkeep];have:Zdm r ys[k]=false:=by unfold Zdm;simp at p2 ⊢;exact p2
    simp[this]
   ·rw[hl];have h1:(cur.toList.take (ys.length*5)).take (k*5)=cur.toList.take (k*5):=by rw[List.take_take,Nat.min_eq_left (by omega)]
    rw[←h1,htake];have h2:ys.flatMap encW=(ys.take k).flatMap encW++(ys.drop k).flatMap encW:=by rw[←List.flatMap_append,List.take_append_drop]
    rw[h2,List.take_append_of_le_length (by rw[Zey,hl];exact Nat.le_refl _),List.take_of_length_le (by rw[Zey,hl];exact Nat.le_refl _)]
  have hkn:(k:Int)≠ -1:=by omega
  have hl:(ys.take k).length=k:=by simp;omega
  have HI0:=Lib.hid hI0;have Hl:=Lib.hid hl;have hkb:((k:Int)== -1)=false:=by simpa using hkn
  clear p1 p2 p3 hkn hI0 hl hreads hrow htake hg
  go_wp2_with fail
  go_loopw [5,6,7] (fun i j _ wr=>∃(q:Nat) (K:List DW) (cur':Array Value),j=.int .i64 q∧q≤ys.length∧i=.int .i64 K.length∧Blk wr gb 64 cur'∧Hid (DelI ys r vc q K cur')∧Below B W wr) (fun _ j _ _=>ys.length-(intOf j).toNat)
  case atStart=>exact⟨k+1,ys.take k,cur,by go_num,by omega,by rw[Hl.out],hB1,HI0,hb1.mono hBW⟩
  case round =>
   obtain⟨q,K,cur',rfl,hq,rfl,hB,HI,hbl⟩:=hrel;have hzr:=hbl.size;have hKq:K.length<q:=HI.out.lt;have hsz:cur'.size=vc*5:=HI.out.size
   by_cases hlt:q<ys.length
   ·have hltI:(q:Int)<ys.length:=by omega
    have hcl:∀j,j<5→cur'[q*5+j]?=(encW ys[q])[j]?:=fun j hj=>by
     rw[HI.out.high (q*5+j) (by omega) (by omega)];exact Zj3 hlt hj
    obtain⟨c0,c1,c2,c3,c4⟩:=Zun hB hcl
    have hgc:wr.cell? ⟨g,0,none⟩=some (.int .i64 r):=by
     rw[hbl.cell (p:=⟨g,0,none⟩) hgB];exact hc
    have hR:Hid (RCrt w0.cell? (encW ys[q]) ys[q].x):=Hread.out _ (List.getElem_mem hlt);have hnx:=Lib.hid (Zg6 hlt r);generalize ys[q]=y at *
    go_upto_region 8 with fail
    refine Zo fun W2 hX hsX hbX=>?_
    have hbl2:=hbl.trans (hbX.mono (by omega));have hB2:=hB.kept hbX;have hgc2:=Zaa hbX _ _ hgc;have x0:=hX.cell 0;have x1:=hX.cell 1;have x2:=hX.cell 2;have x3:=hX.cell 3;have x4:=hX.cell 4;simp at x0 x1 x2 x3 x4;have hzX:=hbX.size;clear hsX hB c0 c1 c2 c3 c4 hcl hgc
    go_wp2_with fail
    refine(Zkm (encW y) y.x r g W2 hgc2 (RCrt.mono _ _ _ _ hR.out (Zaa (hb0.trans (hbl2.mono h0B))))).mono ?_;rintro e w3 ⟨rfl,hb3⟩;have hbl3:=hbl2.trans (hb3.mono (by omega));have hB3:=hB2.kept hb3;have hX3:=hX.kept hb3;clear x0 x1 x2 x3 x4 hX hB2 hgc2 hb3;cases e1:decide (y.x.hdr.round<r)
    ·have hkp:Zdm r y=true:=by unfold Zdm;rw[e1];rfl
     have HN:=Lib.hid (HI.out.put hnx.out hkp (by omega));have x0:=hX3.cell 0;have x1:=hX3.cell 1;have x2:=hX3.cell 2;have x3:=hX3.cell 3;have x4:=hX3.cell 4;simp at x0 x1 x2 x3 x4;have hKv:(K.length:Int)<ys.length:=by omega
     have hfit:K.length*5+5≤cur'.size:=by omega
     clear e1 hkp hnx
     go_wp2_with (refine Zfh (n:=5) rfl rfl rfl rfl (by kernel_rfl) rfl hB3 hfit rfl ?_)
     intro w4 hB4 hg4;have hB4:Blk w4 gb 64 (cur'.toList.take (K.length*5)++(encW y++cur'.toList.drop (K.length*5+5))).toArray:=hB4;have hz3:=hbl3.size;have hbl4:=Zab hbl3 (by omega) hg4 (fun k e=>by obtain rfl:=Option.some.inj e;exact hbg);have hKl:Hid ((K++[y]).length=K.length+1):=by show _=_;simp
     clear x0 x1 x2 x3 x4 hX3 hB3;go_wp2;go_roundw
     case rel=>exact⟨q+1,K++[y],_,by go_num,by omega,by rw[hKl.out];go_num,hB4,HN,hbl4⟩
     case measure=>simp[intOf]<;>omega
    ·have hkp:Zdm r y=false:=by unfold Zdm;rw[e1];rfl
     have HN:=Lib.hid (HI.out.skip hnx.out hkp);clear e1 hkp hnx;go_wp2;go_roundw
     case rel=>exact⟨q+1,K,cur',by go_num,by omega,rfl,hB3,HN,hbl3⟩
     case measure=>simp[intOf]<;>omega
   ·have hql:q=ys.length:=by omega
    subst hql;have hltI:¬(ys.length:Int)<ys.length:=by omega
    have hKl:Hid (QK=K):=by show _=_;rw[HI.out.k,List.take_length];exact hQK.out.symm
    have h1:K.length<vc:=by omega
    have h2:(K.length:Int)≤(ys.length:Int):=by omega
    have h3:(K.length:Int)≤(vc:Int):=by omega
    have h4':K.length≤vc:=by omega
    have h5:¬(K.length=vc):=by omega
    have h6:K.length≤ys.length:=by omega
    obtain⟨zs,hzs⟩:∃zs,Hid ((Builtin.zeroCells (Value.agg #[.int .i64 0,.int .i64 0,.slice none 0 0,.slice none 0 0,.slice none 0 0]).cells (ys.length-K.length)).toList=zs):=⟨_,rfl⟩
    have hzl:Hid (zs.length=(ys.length-K.length)*5):=by
     show _=_;rw[←hzs.out];unfold Builtin.zeroCells;simp[Value.cells]
    have hcl:∀ty,(Builtin.clear_ #[38] ty #[.slice (some ⟨gb,K.length*5,none⟩) (ys.length-K.length) (vc-K.length)]).run Tryz.prog wr=.ok (.tuple #[]) (wr.setRow gb (Zfc cur' (K.length*5) zs)):=fun ty=>by
     have:=Zh3 (P:=Tryz.prog) (ty:=ty) (c:=vc-K.length) (sz:=5) (off:=K.length*5) (n:=ys.length-K.length) Tryz.underlying38 zeroC rfl rfl (by decide) hB (by omega) (by omega);rw[this,hzs.out]
    obtain⟨hB9,hg9⟩:=Zlq hB (Zfc cur' (K.length*5) zs);have hs9:=Zli (cur:=cur') (off:=K.length*5) (zs:=zs) (by rw[hzl.out];omega);have ht9:=Zlh (cur:=cur') (off:=K.length*5) (zs:=zs) (by rw[hzl.out];omega);have HS:=Lib.hid (And.intro hs9 ht9);obtain⟨w9,hw9⟩:∃w9,wr.setRow gb (Zfc cur' (K.length*5) zs)=w9:=⟨_,rfl⟩;rw[hw9]at hB9 hg9 hcl;have hbl9:=Zab hbl (by omega) hg9 (fun k e=>by obtain rfl:=Option.some.inj e;exact hbg);generalize Zfc cur' (K.length*5) zs=new at *;clear hs9 ht9 hw9
    have hres:DelW B W w9 (.slice (some ⟨gb,0,none⟩) K.length vc) QK:=by
     refine⟨hbl9,?_⟩;rw[hKl.out];exact⟨Zey K,.inr ⟨gb,vc,new,rfl,hbg,hB9,by omega,hcm,HS.out.1.trans HI.out.size,by rw[HS.out.2];exact HI.out.low⟩⟩
    clear hB9 hg9 hbl9 hB
    go_wp2_with fail
    go_ret;exact⟨_,rfl,hres⟩
end Fl
end Go.Proofs.YtinibgklgehdpaaGreatDoor
