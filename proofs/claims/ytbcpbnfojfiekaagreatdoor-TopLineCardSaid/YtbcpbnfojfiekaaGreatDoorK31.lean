/- A part of what the last text stands on. -/
import Derived.Test.YtbcpbnfojfiekaaGreatDoorK29
namespace Go.Proofs.YtbcpbnfojfiekaaGreatDoor
open Go.ChangeShapes Go.WideShapes Go.ChangeAt Go.RowKit Go.Proofs.Tryz Qa Qb Qc
set_option linter.all false
set_option maxHeartbeats 20000000
set_option maxRecDepth 100000
variable{P:Program}{w W wr:World}{a:Act}{o:Oper}{ops:Array Oper}{rest:List Oper}{Q:Exit→Act→World→Prop}{v:Value}{cur:Array Value}{A:Option Addr}{h:View}{e t te:TypeId}{i j g off sz c:Nat}{l:List Crt}
namespace Fl
structure DW where
 x:Crt
 ok:(0≤x.hdr.author∧x.hdr.author≤3)∧0≤x.hdr.round∧x.hdr.round≤1048576
 b:Option Addr
 bc:Nat
 p:Option Addr
 pc:Nat
 v:Option Addr
 vc:Nat
instance:Inhabited DW:=⟨⟨⟨⟨0,0,[],[]⟩,[]⟩,by decide,none,0,none,0,none,0⟩⟩
def encW(y:DW):List Value:=[.int .i64 y.x.hdr.author,.int .i64 y.x.hdr.round,.slice y.b y.x.hdr.batches.length y.bc,.slice y.p y.x.hdr.parents.length y.pc,.slice y.v y.x.voters.length y.vc]
theorem Zfj(y:DW):(encW y).length=5:=rfl
theorem Ze1(ys:List DW):(ys.flatMap encW).length=ys.length*5:=by
 induction ys with
 |nil=>rfl
 |cons y ys ih=>rw[List.flatMap_cons,Zl,ih,Zfj,Zu];omega
theorem Zkt{ys:List DW}(hi:i<ys.length)(a:j<5):(ys.flatMap encW)[i*5+j]?=(encW ys[i])[j]?:=by
 induction ys generalizing i with
 |nil=>simp at hi
 |cons y ys ih =>
  rw[List.flatMap_cons];cases i with
  |zero=>rw[List.getElem?_append_left (by rw[Zfj];omega)];simp
  |succ i =>
   rw[List.getElem?_append_right (by rw[Zfj];omega),Zfj,show(i+1)*5+j-5=i*5+j by omega,ih (by simpa using hi)];rfl
def OkW(c:Crt):Prop:=(0≤c.hdr.author∧c.hdr.author≤3)∧0≤c.hdr.round∧c.hdr.round≤1048576
theorem okW{c:Crt}(h:hF c.hdr=0):OkW c:=by
 unfold hF Zb5 at h;split at h
 ·rename_i a;simp[inB]at a;unfold OkW;omega
 ·cases h
structure LW (h:View) (v:Value) (l:List Crt) (ys:List DW):Prop where
 map:ys.map (·.x)=l
 read:∀y∈ys,RCrt h (encW y) y.x
 cell:∀b o n c,v=.slice (some ⟨b,o,none⟩) n c→∀q u,(ys.flatMap encW)[q]?=some u→h ⟨b,o+q,none⟩=some u
theorem wcrts(r:RCrts h v l)(ok:∀c∈l,OkW c):∃ys,LW h v l ys:=by
 obtain⟨A,c,rfl,t,p,E,D,w⟩:=r
 have a:∀i (hi:i<l.length),∃y:DW,y.x=l[i]∧RCrt h (encW y) y.x∧∀b o,A=some ⟨b,o,none⟩→∀j,j<5→h ⟨b,o+i*5+j,none⟩=(encW y)[j]?:=fun i hi=>by
  obtain⟨b,o,ea,C⟩:=w (by omega);obtain⟨cs,_,f,vb,vp,vv,rfl,r1,r2,r3⟩:=C i hi;obtain⟨bA,bc,rfl,_⟩:=id r1;obtain⟨pA,pc,rfl,_⟩:=id r2;obtain⟨vA,vc,rfl,_⟩:=id r3;refine⟨⟨l[i],ok _ (List.getElem_mem hi),bA,bc,pA,pc,vA,vc⟩,rfl,⟨_,_,_,rfl,r1,r2,r3⟩,fun b' o' ea' j k=>?_⟩;rw[ea]at ea';injection ea' with ea';injection ea' with eb eo _;subst eb eo;exact f j k
 have g:(List.ofFn fun i:Fin l.length=>Classical.choose (a i i.2)).length=l.length:=by simp
 have d:∀i (hi:i<l.length),(List.ofFn fun i:Fin l.length=>Classical.choose (a i i.2))[i]'(by omega)=Classical.choose (a i hi):=fun i hi=>by simp
 refine⟨List.ofFn fun i:Fin l.length=>Classical.choose (a i i.2),?_,?_,?_⟩
 ·apply List.ext_getElem
  ·simp
  ·intro i t p;rw[List.getElem_map,d i p];exact(Classical.choose_spec (a i p)).1
 ·intro y z;obtain⟨i,hi,rfl⟩:=List.getElem_of_mem z;rw[d i (by omega)];exact(Classical.choose_spec (a i (by omega))).2.1
 ·intro b o n c' e q u m;injection e with e1 _ _
  have B:q<l.length*5:=by
   have:=(List.getElem?_eq_some_iff.1 m).1;rw[Ze1,g]at this;exact this
  have hi:q/5<l.length:=by omega
  have k:q%5<5:=Nat.mod_lt _ (by decide);have s:q=q/5*5+q%5:=by omega
  rw[s,Zkt (by omega) k,d _ hi]at m;rw[←m,←(Classical.choose_spec (a (q/5) hi)).2.2 b o e1 (q%5) k]
  congr 2
  omega
def RowW(w:World)(B:Nat)(v:Value)(ys:List DW):Prop:=w.ownsRow B 79 5 v ys.length (ys.flatMap encW)
theorem Zia{bytes base n m:Nat}{xs news:List Value}(E:Elem P t e sz bytes)(s y:Operand)(w:o.guard=none)(D:o.op=.call {callee:=.builtin .append,args:=#[s,y],argTypes:=#[t,t] })(H:a.eval s=v)(g:wr.ownsRow base e sz v n xs)(f:base≤wr.heap.size)(B:a.eval y=.slice A m c)(F:news.length=m*sz)(G:A=none→m=0∧c=0)(d:∀ad,A=some ad→∀j u,news[j]?=some u→wr.cell? (ad.add j)=some u)(C:∀u∈news,u.oneCell'=true)(p:n+m≤maxLen)(b:(n+m)*bytes≤140737488355328)(h:∀v' w',w'.ownsRow base e sz v' (n+m) (xs++news)→wr.grownBy w' v.ownBlock→wpList P ops Q rest (a.put o.dst v') w'):wpList P ops Q (o::rest) a wr:=by
 obtain⟨ht,r,i,z,hi,k,x,q,l⟩:=E;exact Zcx w s y t D base e i z sz bytes ht hi k x q l r v n xs H g A m c news B F G d C p b f h
structure ClW (h:View) (w:World) (l:List Crt) (w':World) (v:Value):Prop where
 below:Below w.heap.size w w'
 row:∃ys:List DW,RowW w' w.heap.size v ys∧ys.map (·.x)=l∧∀y∈ys,RCrt h (encW y) y.x
theorem Zvm(h:View)(v:Value)(l:List Crt)(w:World)(z:VLe h w.cell?)(H:RCrts h v l)(ok:∀c∈l,OkW c) :
 Calls prog 149 #[v] w fun e w'=>∃v',e=.returned v'∧ClW h w l w' v':=by
 obtain⟨ys,r⟩:=wcrts H ok;have d:ys.length=l.length:=by rw[←r.map,List.length_map]
 obtain⟨A,c,rfl,q1,q2,q3,q4,q5⟩:=H;have e1:=@Lib.run_eql_slice_nil prog;have G:=Zb q3;have M:=Zb q4
 have i:Hid (∀ad,A=some ad→∀j u,(ys.flatMap encW)[j]?=some u→w.cell? (ad.add j)=some u):=fun ad e j u t=>by
  have K:=(List.getElem?_eq_some_iff.1 t).1;rw[Ze1]at K;obtain⟨b,o,ea,_⟩:=q5 (by omega);have:=r.cell b o l.length c (by rw[ea]) j u t;rw[ea]at e;obtain rfl:=Option.some.inj e;rw[Zbs];exact z _ _ this
 clear q3 q4 q5;cases A with
 |none =>
  have J:=M.out rfl;have D:l=[]:=List.eq_nil_of_length_eq_zero (by omega);subst D;have C:ys=[]:=List.eq_nil_of_length_eq_zero d;subst C;subst J;clear d;go_enter func149,ntmps149;go_wp2;go_ret;exact⟨_,rfl,Zm _ _,[],World.ownsRow_nil _ _ _ _,rfl,fun y q=>by cases q⟩
 |some a =>
  have n:=Zb r.read;have p:=Zb r.map;clear r;have g:=Zac w (.cells #[] 79);have m:(w.alloc (.cells #[] 79)).ownsRow w.heap.size 79 5 (.slice (some ⟨w.heap.size,0,none⟩) 0 0) 0 []:=World.ownsRow_made w #[] 0 (Za _) (Zf _) rfl
  have s:Hid (∀u∈ys.flatMap encW,u.oneCell'=true):=fun u hu=>by
   obtain⟨y,_,q⟩:=List.mem_flatMap.1 hu;unfold encW at q;simp at q
   rcases q with rfl|rfl|rfl|rfl|rfl<;>rfl
  have B:=Zb (Ze1 ys);have f:=Zb d;clear d;have E:Hid (∀ad,(some a:Option Addr)=some ad→∀j u,(ys.flatMap encW)[j]?=some u→(w.alloc (.cells #[] 79)).cell? (ad.add j)=some u):=fun ad e j u t=>Zaa g _ _ (i.out ad e j u t)
  have F:w.heap.size≤(w.alloc (.cells #[] 79)).heap.size:=g.size;go_enter func149,ntmps149;go_wp2_with (at_builtin;refine Zia Zl1 _ _ rfl rfl rfl m F rfl (by rw[B.out,f.out]) (fun h=>by cases h) E.out s.out (Zbw (by have:=G.out;omega)) (by have:=G.out;omega) ?_);intro v' w1 I L;go_wp2;go_ret;have x:Below w.heap.size w w1:=Zab g F L (fun k e=>Nat.le_of_eq (Option.some.inj e));exact⟨v',rfl,x,ys,by unfold RowW;rw[f.out];simpa using I,p.out,n.out⟩
def Zfm(cur:Array Value)(off:Nat)(zs:List Value):Array Value:=(cur.toList.take off++zs++cur.toList.drop (off+zs.length)).toArray
theorem Zik{ty:TypeId}{z:Value}{n:Nat}(ht:P.underlying t=some (.slice e))(b:∀w,(zeroValue e).run P w=.ok z w)(j:z.cells.size=sz)(o:(z.cells.toList.all fun u=>u.oneCell')=true)(q:0<sz)(p:Blk w g te cur)(hn:0<n)(l:off+n*sz≤cur.size) :
 (Builtin.clear_ #[t] ty #[.slice (some ⟨g,off,none⟩) n c]).run P w=.ok (.tuple #[]) (w.setRow g (Zfm cur off (Builtin.zeroCells z.cells n).toList)):=by
 have k:(Builtin.zeroCells z.cells n).toList.length=n*sz:=by unfold Builtin.zeroCells;simp[j]
 have d:∀v∈(Builtin.zeroCells z.cells n).toList,v.oneCell'=true:=fun v b=>by
  unfold Builtin.zeroCells at b
  simp at b
  obtain⟨i,_,rfl⟩:=b
  have f:i%z.cells.size<z.cells.size:=Nat.mod_lt _ (by omega)
  rw[getElem!_pos z.cells _ f]
  exact List.all_eq_true.1 o _ (by simp)
 have a:=run_storeCells_at P g off te (Builtin.zeroCells z.cells n).toList 0 cur w p (by rw[k];omega) d
 simp only[Nat.add_zero]at a
 obtain⟨m,rfl⟩:∃m,n=m+1:=⟨n-1,by omega⟩
 unfold Zfm
 simp[Builtin.clear_,run_underlying ht,b,a]
theorem Zmc{zs:List Value}(a:off+zs.length≤cur.size):(Zfm cur off zs).size=cur.size:=by
 unfold Zfm;simp;omega
theorem Zmb{zs:List Value}(a:off+zs.length≤cur.size):(Zfm cur off zs).toList.take off=cur.toList.take off:=by
 unfold Zfm;simp[List.take_append];have:off≤cur.size:=by omega
 simp[Nat.min_eq_left this,List.take_take]
theorem Zlf(cs:List Value)(x:Crt)(r:Int)(g:Nat)(w:World)(c:w.cell? ⟨g,0,none⟩=some (.int .i64 r))(d:RCrt w.cell? cs x) :
 Calls prog 151 (#[.agg cs.toArray]++#[.pointer (some ⟨g,0,none⟩)]) w fun e w'=>e=.returned (.bool (decide (x.hdr.round<r)))∧Below w.heap.size w w':=by
 obtain⟨ub,up,uv,rfl,_,_,_⟩:=d;show Calls prog 151 #[.agg #[.int .i64 x.hdr.author,.int .i64 x.hdr.round,ub,up,uv],.pointer (some ⟨g,0,none⟩)] w _;have a:=Zac w (.cells #[.int .i64 x.hdr.author,.int .i64 x.hdr.round,ub,up,uv] 79);have g0:=Zaa a _ _ c;clear c;generalize x.hdr.author=x0 at a g0⊢;generalize x.hdr.round=y0 at a g0⊢;go_enter func151,ntmps151
 by_cases b:y0<r
 ·go_wp2;go_ret;exact⟨Zao (by simp[b]),a⟩
 ·go_wp2;go_ret;exact⟨Zao (by simp[b]),a⟩
def Zdq(r:Int)(y:DW):Bool:= !decide (y.x.hdr.round<r)
theorem Ztu{n q:Nat}{xs:List Value}(h:cur.toList.take n=xs)(a:q<n):cur[q]?=xs[q]?:=by
 rw[←h,List.getElem?_take_of_lt a];simp
theorem Zwt{q:Nat}(c:Blk w g 79 cur){y:DW}(a:∀j,j<5→cur[q+j]?=(encW y)[j]?):w.cell? ⟨g,q,none⟩=some (.int .i64 y.x.hdr.author)∧w.cell? ⟨g,q+1,none⟩=some (.int .i64 y.x.hdr.round)∧w.cell? ⟨g,q+2,none⟩=some (.slice y.b y.x.hdr.batches.length y.bc)∧w.cell? ⟨g,q+3,none⟩=some (.slice y.p y.x.hdr.parents.length y.pc)∧w.cell? ⟨g,q+4,none⟩=some (.slice y.v y.x.voters.length y.vc):=by
 refine⟨?_,?_,?_,?_,?_⟩<;>rw[c.cell]
 ·exact a 0 (by decide)
 ·exact a 1 (by decide)
 ·exact a 2 (by decide)
 ·exact a 3 (by decide)
 ·exact a 4 (by decide)
theorem Zun{w0:World}{B:Nat}{ys:List DW}(h:RowW W B v ys)(n:∀y∈ys,RCrt w0.cell? (encW y) y.x)(f:VLe w0.cell? W.cell?)(p:ys.length≤400):RCrts W.cell? v (ys.map (·.x)):=by
 have a:(ys.map (·.x)).length=ys.length:=List.length_map _
 rcases h.2 with ⟨rfl,hn⟩|⟨g,cap,cur,rfl,k,m,c,d,e,b⟩
 ·have:ys=[]:=List.eq_nil_of_length_eq_zero hn;subst this;exact⟨none,0,rfl,Za _,Zf _,by simp,fun _=>rfl,fun h=>by simp at h⟩
 ·refine⟨some ⟨g,0,none⟩,cap,by rw[a],by rw[a];exact c,d,by rw[a];omega,(fun h=>by cases h),fun o=>⟨g,0,rfl,fun i hi=>?_⟩⟩;rw[a]at hi;refine⟨encW ys[i],rfl,fun j l=>?_,?_⟩
  ·rw[show W.cell? ⟨g,0+i*5+j,none⟩=cur[0+i*5+j]? from Blk.cell (show Blk W g 79 cur from m) _,Nat.zero_add,Ztu b (by omega)];exact Zkt hi l
  ·rw[List.getElem_map];exact RCrt.mono _ _ _ _ (n _ (List.getElem_mem hi)) f
structure DelI (ys:List DW) (r:Int) (cap q:Nat) (K:List DW) (cur:Array Value):Prop where
 k:K=(ys.take q).filter (Zdq r)
 lt:K.length<q
 size:cur.size=cap*5
 low:cur.toList.take (K.length*5)=K.flatMap encW
 high:∀t,q*5≤t→t<ys.length*5→cur[t]?=(ys.flatMap encW)[t]?
structure DelW (B:Nat) (W w':World) (v:Value) (zs:List DW):Prop where
 below:Below B W w'
 row:RowW w' B v zs
theorem Zhm{ys:List DW}{q:Nat}(a:q<ys.length)(r:Int):(ys.take (q+1)).filter (Zdq r)=(ys.take q).filter (Zdq r)++(if Zdq r ys[q]then [ys[q]]else []):=by
 rw[Zn a,List.filter_append]
 congr 1
 cases h:Zdq r ys[q]<;>simp[List.filter,h]
theorem DelI.skip{ys:List DW}{r:Int}{cap q:Nat}{K:List DW}{y:DW}(h:DelI ys r cap q K cur)(hn:(ys.take (q+1)).filter (Zdq r)=(ys.take q).filter (Zdq r)++(if Zdq r y then [y]else []))(a:Zdq r y=false):DelI ys r cap (q+1) K cur :=
 ⟨by rw[hn,a,←h.k];simp,Nat.lt_succ_of_lt h.lt,h.size,h.low,fun t c b=>h.high t (by omega) b⟩
theorem DelI.put{ys:List DW}{r:Int}{cap q:Nat}{K:List DW}{y:DW}(h:DelI ys r cap q K cur)(hn:(ys.take (q+1)).filter (Zdq r)=(ys.take q).filter (Zdq r)++(if Zdq r y then [y]else []))(d:Zdq r y=true)(l:q<cap):DelI ys r cap (q+1) (K++[y]) (cur.toList.take (K.length*5)++(encW y++cur.toList.drop (K.length*5+5))).toArray:=by
 have f:=h.lt;have b:=h.size;have c:cur.toList.length=cap*5:=by simpa using b
 have a:(K.flatMap encW).length=K.length*5:=Ze1 K;refine⟨by rw[hn,d,←h.k];simp,by simp;omega,?_,?_,fun t j i=>?_⟩
 ·rw[h.low];simp only[List.size_toArray,Zl,a,Zfj,List.length_drop,c];omega
 ·rw[h.low,←List.append_assoc];have e:(K++[y]).flatMap encW=K.flatMap encW++encW y:=by simp
  have g:(K.flatMap encW++encW y).length=(K++[y]).length*5:=by simp only[Zl,a,Zfj,List.length_singleton];omega
  rw[e,←g];exact List.take_left
 ·rw[h.low,←h.high t (by omega) i];have m:K.length*5+5≤t:=by omega
  rw[List.getElem?_toArray,List.getElem?_append_right (by rw[a];omega),a,List.getElem?_append_right (by rw[Zfj];omega),Zfj,List.getElem?_drop,show K.length*5+5+(t-K.length*5-5)=t by omega];simp
theorem zeroC(w:World):(zeroValue 79).run prog w=.ok (.agg #[.int .i64 0,.int .i64 0,.slice none 0 0,.slice none 0 0,.slice none 0 0]) w:=by kernel_rfl
theorem Zsr(v:Value)(ys:List DW)(w0 W:World)(B g:Nat)(r:Int)(a:RowW W B v ys)(f:∀y∈ys,RCrt w0.cell? (encW y) y.x)(Q:Below w0.heap.size w0 W)(hc:W.cell? ⟨g,0,none⟩=some (.int .i64 r))(ht:g<B)(he:B≤W.heap.size)(h4:ys.length≤400)(hv:w0.heap.size≤B) :
 Calls prog 150 #[v,.func (.func 151) #[] #[.pointer (some ⟨g,0,none⟩)]] W fun e w'=>∃v',e=.returned v'∧DelW B W w' v' (ys.filter (Zdq r)):=by
 have b:=Zun a f (Zaa Q) h4;have eg:=enters_of func151 (by kernel_rfl) rfl;have gp:=Q.size;have S:=Zb f
 obtain⟨vA,vc,g4⟩:∃A c,v=.slice A ys.length c:=by
  rcases a.2 with ⟨e,hn⟩|⟨g',cap,cur,e,_⟩
  ·exact⟨none,0,by rw[e,hn]⟩
  ·exact⟨_,_,e⟩
 subst g4;obtain⟨QK,R⟩:∃q,Hid (ys.filter (Zdq r)=q):=⟨_,rfl⟩;rw[R.out];clear f;go_enter func150,ntmps150;go_wp2_with fail;refine(Zlt 151 #[.pointer (some ⟨g,0,none⟩)] (fun x=>decide (x.hdr.round<r)) eg _ (ys.map (·.x)) W b (fun W3 cs x hW hx=>Zlf cs x r g W3 (Zaa hW _ _ hc) hx)).mono ?_;rintro e w1 ⟨rfl,u⟩;have gl:=u.size
 rcases Zfy (fun x:Crt=>decide (x.hdr.round<r)) (ys.map (·.x))with ⟨p1,p2⟩|⟨k,hk,p1,p2,p3⟩
 ·rw[p1]
  have H:QK=ys:=by
   rw[←R.out,List.filter_eq_self];intro y hy;rw[List.any_eq_false]at p2;have:=p2 y.x (List.mem_map.2 ⟨y,hy,rfl⟩);unfold Zdq;simpa using this
  have s:DelW B W w1 (.slice vA ys.length vc) QK:=⟨u.mono he,by rw[H];exact a.kept (row:=none) (Zal none u) (by cases (Value.slice vA ys.length vc).ownBlock<;>simp)⟩
  clear p1 p2 H b a;go_wp2;go_ret;exact⟨_,rfl,s⟩
 ·rw[p1];have hw:k<ys.length:=by simpa using hk
  rcases a.2 with ⟨e,hn⟩|⟨gb,cap,cur,e,N,hg,gh,g5,g7,d⟩
  ·omega
  injection e with e1 _ e3;subst e1 e3;have hz:Blk w1 gb 79 cur:=(show Blk W gb 79 cur from hg).kept u
  have ha:DelI ys r vc (k+1) (ys.take k) cur:=by
   have O:(ys.take k).filter (Zdq r)=ys.take k:=by
    rw[List.filter_eq_self];intro y hy;obtain⟨i,hi,rfl⟩:=List.getElem_of_mem hy;have g2:i<k:=by simp at hi;omega
    have:=p3 i (by simp;omega) g2;unfold Zdq;simpa using this
   have Z:(ys.take k).length=k:=by simp;omega
   refine⟨?_,by omega,g7,?_,fun t h1 h2=>Ztu d h2⟩
   ·rw[Zhm hw,O];have:Zdq r ys[k]=false:=by unfold Zdq;simp at p2 ⊢;exact p2
    simp[this]
   ·rw[Z];have h1:(cur.toList.take (ys.length*5)).take (k*5)=cur.toList.take (k*5):=by rw[List.take_take,Nat.min_eq_left (by omega)]
    rw[←h1,d];have h2:ys.flatMap encW=(ys.take k).flatMap encW++(ys.drop k).flatMap encW:=by rw[←List.flatMap_append,List.take_append_drop]
    rw[h2,List.take_append_of_le_length (by rw[Ze1,Z];exact Za _),List.take_of_length_le (by rw[Ze1,Z];exact Za _)]
  have hf:(k:Int)≠ -1:=by omega
  have Z:(ys.take k).length=k:=by simp;omega
  have g3:=Zb ha;have Hl:=Zb Z;have gz:((k:Int)== -1)=false:=by simpa using hf
  clear p1 p2 p3 hf ha Z b a d hg;go_wp2_with fail
  go_loopw [5,6,7] (fun i j _ wr=>∃(q:Nat) (K:List DW) (cur':Array Value),j=.int .i64 q∧q≤ys.length∧i=.int .i64 K.length∧Blk wr gb 79 cur'∧Hid (DelI ys r vc q K cur')∧Below B W wr) (fun _ j _ _=>ys.length-(intOf j).toNat)
  case atStart=>exact⟨k+1,ys.take k,cur,by go_num,by omega,by rw[Hl.out],hz,g3,u.mono he⟩
  case round =>
   obtain⟨q,K,cur',rfl,hq,rfl,Y,I,z⟩:=hrel;have gr:=z.size;have gn:K.length<q:=I.out.lt;have gy:cur'.size=vc*5:=I.out.size
   by_cases J:q<ys.length
   ·have h0:(q:Int)<ys.length:=by omega
    have D:∀j,j<5→cur'[q*5+j]?=(encW ys[q])[j]?:=fun j hj=>by
     rw[I.out.high (q*5+j) (by omega) (by omega)];exact Zkt J hj
    obtain⟨c0,c1,c2,c3,c4⟩:=Zwt Y D
    have hp:wr.cell? ⟨g,0,none⟩=some (.int .i64 r):=by
     rw[z.cell (p:=⟨g,0,none⟩) ht];exact hc
    have hR:Hid (RCrt w0.cell? (encW ys[q]) ys[q].x):=S.out _ (List.getElem_mem J);have h:=Zb (Zhm J r);generalize ys[q]=y at *;go_upto_region 8 with fail;refine Zo fun W2 L ga w=>?_
    have E:=z.trans (w.mono (by omega));have h9:=Y.kept w;have G:=Zaa w _ _ hp;have x0:=L.cell 0;have x1:=L.cell 1;have x2:=L.cell 2;have x3:=L.cell 3;have x4:=L.cell 4;simp at x0 x1 x2 x3 x4;have s0:=w.size;clear ga Y c0 c1 c2 c3 c4 D hp;go_wp2_with fail;refine(Zlf (encW y) y.x r g W2 G (RCrt.mono _ _ _ _ hR.out (Zaa (Q.trans (E.mono hv))))).mono ?_;rintro e w3 ⟨rfl,C⟩;have m:=E.trans (C.mono (by omega));have M:=h9.kept C;have l:=L.kept C;clear x0 x1 x2 x3 x4 L h9 G C;cases e1:decide (y.x.hdr.round<r)
    ·have o:Zdq r y=true:=by unfold Zdq;rw[e1];rfl
     have HN:=Zb (I.out.put h.out o (by omega));have x0:=l.cell 0;have x1:=l.cell 1;have x2:=l.cell 2;have x3:=l.cell 3;have x4:=l.cell 4;simp at x0 x1 x2 x3 x4;have gi:(K.length:Int)<ys.length:=by omega
     have hh:K.length*5+5≤cur'.size:=by omega
     clear e1 o h;go_wp2_with (refine Zfs (n:=5) rfl rfl rfl rfl (by kernel_rfl) rfl M hh rfl ?_);intro w4 T g9;have T:Blk w4 gb 79 (cur'.toList.take (K.length*5)++(encW y++cur'.toList.drop (K.length*5+5))).toArray:=T;have gu:=m.size;have hm:=Zab m (by omega) g9 (fun k e=>by obtain rfl:=Option.some.inj e;exact N);have V:Hid ((K++[y]).length=K.length+1):=by show _=_;simp
     clear x0 x1 x2 x3 x4 l M;go_wp2;go_roundw
     case rel=>exact⟨q+1,K++[y],_,by go_num,by omega,by rw[V.out];go_num,T,HN,hm⟩
     case measure=>simp[intOf]<;>omega
    ·have o:Zdq r y=false:=by unfold Zdq;rw[e1];rfl
     have HN:=Zb (I.out.skip h.out o);clear e1 o h;go_wp2;go_roundw
     case rel=>exact⟨q+1,K,cur',by go_num,by omega,rfl,M,HN,m⟩
     case measure=>simp[intOf]<;>omega
   ·have g8:q=ys.length:=by omega
    subst g8;have h0:¬(ys.length:Int)<ys.length:=by omega
    have V:Hid (QK=K):=by show _=_;rw[I.out.k,List.take_length];exact R.out.symm
    have h1:K.length<vc:=by omega
    have h2:(K.length:Int)≤(ys.length:Int):=by omega
    have h3:(K.length:Int)≤(vc:Int):=by omega
    have gj:K.length≤vc:=by omega
    have h5:¬(K.length=vc):=by omega
    have h6:K.length≤ys.length:=by omega
    obtain⟨zs,h8⟩:∃zs,Hid ((Builtin.zeroCells (Value.agg #[.int .i64 0,.int .i64 0,.slice none 0 0,.slice none 0 0,.slice none 0 0]).cells (ys.length-K.length)).toList=zs):=⟨_,rfl⟩
    have hr:Hid (zs.length=(ys.length-K.length)*5):=by
     show _=_;rw[←h8.out];unfold Builtin.zeroCells;simp[Value.cells]
    have D:∀ty,(Builtin.clear_ #[39] ty #[.slice (some ⟨gb,K.length*5,none⟩) (ys.length-K.length) (vc-K.length)]).run prog wr=.ok (.tuple #[]) (wr.setRow gb (Zfm cur' (K.length*5) zs)):=fun ty=>by
     have:=Zik (P:=prog) (ty:=ty) (c:=vc-K.length) (sz:=5) (off:=K.length*5) (n:=ys.length-K.length) underlying39 zeroC rfl rfl (by decide) Y (by omega) (by omega);rw[this,h8.out]
    obtain⟨U,X⟩:=Zmk Y (Zfm cur' (K.length*5) zs);have h7:=Zmc (cur:=cur') (off:=K.length*5) (zs:=zs) (by rw[hr.out];omega);have hb:=Zmb (cur:=cur') (off:=K.length*5) (zs:=zs) (by rw[hr.out];omega);have HS:=Zb (And.intro h7 hb);obtain⟨w9,ho⟩:∃w9,wr.setRow gb (Zfm cur' (K.length*5) zs)=w9:=⟨_,rfl⟩;rw[ho]at U X D;have F:=Zab z (by omega) X (fun k e=>by obtain rfl:=Option.some.inj e;exact N);generalize Zfm cur' (K.length*5) zs=new at *;clear h7 hb ho
    have s:DelW B W w9 (.slice (some ⟨gb,0,none⟩) K.length vc) QK:=by
     refine⟨F,?_⟩;rw[V.out];exact⟨Ze1 K,.inr ⟨gb,vc,new,rfl,N,U,by omega,g5,HS.out.1.trans I.out.size,by rw[HS.out.2];exact I.out.low⟩⟩
    clear U X F Y;go_wp2_with fail;go_ret;exact⟨_,rfl,s⟩
def cfW(a b:DW):Int:=if a.x.hdr.round≠b.x.hdr.round then a.x.hdr.round-b.x.hdr.round else a.x.hdr.author-b.x.hdr.author
theorem ltW(a b:DW):ltOf cfW a b=decide (a.x.hdr.round<b.x.hdr.round∨(a.x.hdr.round=b.x.hdr.round∧a.x.hdr.author<b.x.hdr.author)):=by
 unfold ltOf cfW;rw[Bool.eq_iff_iff]
 split<;>simp<;>omega
theorem swoW:Sort.SWO (ltOf cfW) where
 irrefl x:=by rw[ltW];simp
 trans x y z h1 h2:=by rw[ltW]at *;simp at *;omega
 ntrans x y z h1 h2:=by rw[ltW]at *;simp at *;omega
theorem Zp2(x y:DW)(W:World):Calls prog 153 #[.agg (encW x).toArray,.agg (encW y).toArray] W fun e w'=>e=.returned (.int .i64 (cfW x y))∧∃q os',w'=Sort.grow (W.drewN q) os':=by
 obtain⟨x,⟨⟨x1,x2⟩,x3,x4⟩,b1,bc1,p1,pc1,v1,vc1⟩:=x;obtain⟨y,⟨⟨y1,y2⟩,y3,y4⟩,b2,bc2,p2,pc2,v2,vc2⟩:=y;simp only[encW,cfW];generalize x.hdr.author=a at *;generalize y.hdr.author=b at *;generalize x.hdr.round=c at *;generalize y.hdr.round=d at *
 by_cases h:c=d
 ·have f:(c != d)=false:=by simpa using h
  rw[if_neg (by simpa using h)];clear h;go_enter func153,ntmps153;go_wp2;go_ret;exact⟨rfl,0,_,by rw[Sort.alloc_eq_grow,Sort.alloc_eq_grow,Sort.grow_grow];rfl⟩
 ·have f:(c != d)=true:=by simpa using h
  rw[if_pos h];clear h;go_enter func153,ntmps153;go_wp2;go_ret;exact⟨rfl,0,_,by rw[Sort.alloc_eq_grow,Sort.alloc_eq_grow,Sort.grow_grow];rfl⟩
theorem cmpLaysW(blk off size:Nat)(w:World):CmpLays prog 153 #[] encW 5 cfW blk off size w:=fun _ _ _ _ x y=>Zp2 x y _
def RCon(h:View):View→List Value→Crt→Prop:=fun _ cs x=>RCrt h cs x
structure SortP (h:View) (B:Nat) (w0 w':World) (v:Value) (ys:List DW):Prop where
 below:Below w0.heap.size w0 w'
 row:∃zs:List DW,zs.Perm ys∧(zs.Pairwise fun x y=>leC x.x y.x=true)∧RSl 5 (RCon h) 88 (View.from w'.cell? B) v (zs.map (·.x))
theorem Zwl(h:View)(v:Value)(ys:List DW)(w0 W:World)(B:Nat)(s:RowW W B v ys)(o:∀y∈ys,RCrt h (encW y) y.x)(l:Below w0.heap.size w0 W)(T:ys.length≤400)(N:w0.heap.size≤B) :
 Calls prog 152 #[v,.func (.func 153) #[] #[]] W fun e w'=>e=.returned (.tuple #[])∧SortP h B w0 w' v ys:=by
 rcases s.2 with ⟨rfl,hn⟩|⟨g,cap,cur,rfl,P,D,m,z,M,p⟩
 ·have O:ys=[]:=List.eq_nil_of_length_eq_zero hn;subst O;refine(AnyF.slices_SortFunc_none Zoh none 0 _ W).mono ?_;rintro e w' ⟨rfl,rfl⟩;exact⟨rfl,l,[],List.Perm.refl _,List.Pairwise.nil,none,0,rfl,Za _,Zf _,by simp,fun _=>rfl,fun h=>by simp at h⟩
 ·have r:Blk W g 79 cur:=D
  have J:Sort.HoldsK encW 5 W g 0 ys.toArray:=fun t ht=>by
   rw[Sort.size_flatK]at ht;have I:t<ys.length*5:=by simpa using ht
   have L:t/5<ys.length:=by omega
   have H:cur[t]?=(encW ys[t/5])[t%5]?:=by
    rw[Ztu p I];have:=Zkt L (Nat.mod_lt t (show 0<5 by decide));rw[←this]
    congr 1
    omega
   rw[Sort.get_flatK _ _ _ _ ht];refine⟨?_,?_⟩
   ·rw[r.cell,Nat.zero_add,H,getElem!_pos ys.toArray (t/5) (by simpa using L)];exact Zks _ (show t%5<5 by omega)
   ·exact r.frozen _
  have eg:∀args w,(callFunc 153 args).run prog w=.ok (.enter 153 args) w:=enters_of func153 (by kernel_rfl) rfl
  have f:=AnyQ.slices_SortFunc Zoh 5 (fun w=>by kernel_rfl) (fun w=>by kernel_rfl) encW (fun _=>rfl) (fun x v K=>by simp[encW]at K;rcases K with rfl|rfl|rfl|rfl|rfl<;>rfl) cfW swoW 153 #[] g 0 cap ys.toArray W eg (cmpLaysW g 0 ys.toArray.size W) J (by exact(Array.getElem?_eq_some_iff.1 D).1) (by simp;omega)
  rw[show ys.toArray.size=ys.length by simp]at f;refine f.mono ?_;rintro e w' ⟨rfl,d',n,os,hp,R,rfl⟩;have q:g<W.heap.size:=(Array.getElem?_eq_some_iff.1 D).1;have Q:=Zgk encW 5 W g 0 n d' os q;have E:Below w0.heap.size w0 (sortWorldK encW 5 W g 0 n d' os):=Zab l l.size Q (by intro k e;injection e with e;omega);have d:d'.size=ys.length:=by simpa using hp.1
  have b:d'.toList.Perm ys:=by
   have C:=hp.2.2;simp at C;rw[List.take_of_length_le (by simp[d])]at C;exact C
  have F:=holdsK_sortWorldK_c encW 5 W g 0 ys.toArray d' n os J q (by simpa using hp.1);refine⟨rfl,E,d'.toList,b,?_,?_⟩
  ·rw[List.pairwise_iff_getElem];intro i j hi A G;simp at hi A;have:=R i j (Zf _) G (by omega);rw[ltW,getElem!_pos d' i (by omega),getElem!_pos d' j (by omega)]at this;simp only[Array.getElem_toList];unfold leC;simp at this
   split<;>simp<;>omega
  ·have a:(d'.toList.map (·.x)).length=ys.length:=by simp[d]
   refine⟨some ⟨g,0,none⟩,cap,by rw[a],by rw[a];exact m,z,by rw[a];omega,(fun h=>by cases h),fun S=>⟨g,0,rfl,fun i hi=>?_⟩⟩;rw[a]at hi;refine⟨encW (d'[i]'(by omega)),rfl,fun j A=>?_,?_⟩
   ·have:=(F.cell (i:=i) (c:=j) (by omega) A).1;rw[getElem!_pos d' i (by omega)]at this;rw[Zks (encW (d'[i]'(by omega))) A];unfold View.from;rw[if_neg (by(try simp only);omega)];exact this
   ·have u:(d'[i]'(by omega))∈ys:=b.mem_iff.1 (by simp);have H:=o _ u;simp only[List.getElem_map,Array.getElem_toList];exact H
theorem Zxk(a b c:Crt)(d:leC a b=true)(e:leC b c=true):leC a c=true:=by
 unfold leC at *
 split at d<;>split at e<;>split<;>simp at * <;>omega
theorem Zxl(a b:Crt):(leC a b||leC b a)=true:=by
 unfold leC
 split<;>split<;>simp at * <;>omega
end Fl
end Go.Proofs.YtbcpbnfojfiekaaGreatDoor
