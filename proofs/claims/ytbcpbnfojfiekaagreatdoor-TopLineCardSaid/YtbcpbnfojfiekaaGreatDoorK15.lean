/- A part of what the last text stands on. -/
import Derived.Shelf.SlSortCmp.NoneTotal
import Derived.Test.YtbcpbnfojfiekaaGreatDoorK09
import Derived.Test.YtbcpbnfojfiekaaGreatDoorK10
import Derived.Test.YtbcpbnfojfiekaaGreatDoorK14
namespace Go.Proofs.YtbcpbnfojfiekaaGreatDoor
open Go.ChangeShapes Go.WideShapes Go.ChangeAt Go.RowKit Go.Proofs.Tryz Qa Qb Qc
set_option linter.all false
set_option maxHeartbeats 20000000
set_option maxRecDepth 100000
variable{k j:Nat}{α:Type}{l:List Crt}
def idxI(p:α→Bool)(l:List α):Int:=match l.findIdx? p with|some i=>i|none=> -1
theorem Zjp{p:α→Bool}{l:List α}(b:k<l.length)(h:∀j (c:j<l.length),j<k→p l[j]=false)(hp:p l[k]=true):idxI p l=k:=by
 have:l.findIdx? p=some k:=by
  rw[List.findIdx?_eq_some_iff_getElem];exact⟨b,hp,fun j a=>by simp[h j (by omega) a]⟩
 simp[idxI,this]
theorem Zls{p:α→Bool}{l:List α}(h:∀j (b:j<l.length),p l[j]=false):idxI p l= -1:=by
 have:l.findIdx? p=none:=by
  rw[List.findIdx?_eq_none_iff];intro x a;obtain⟨i,hi,rfl⟩:=List.getElem_of_mem a;exact h i hi
 simp[idxI,this]
theorem Zfy(p:α→Bool)(l:List α):(idxI p l= -1∧l.any p=false)∨∃k:Nat,∃g:k<l.length,idxI p l=k∧p l[k]=true∧∀j (d:j<l.length),j<k→p l[j]=false:=by
 unfold idxI;split
 ·rename_i i hi;rw[List.findIdx?_eq_some_iff_getElem]at hi;obtain⟨c,f,e⟩:=hi;exact .inr ⟨i,c,rfl,f,fun j d a=>by simpa using e j a⟩
 ·rename_i hi;rw[List.findIdx?_eq_none_iff]at hi;refine .inl ⟨rfl,?_⟩;rw[List.any_eq_false];intro x b;simp[hi x b]
theorem Zkr(p:α→Bool)(l:List α):decide (0≤idxI p l)=l.any p:=by
 rcases Zfy p l with ⟨a,b⟩|⟨k,c,a,b,_⟩
 ·rw[a,b];rfl
 ·rw[a];have:l.any p=true:=List.any_eq_true.2 ⟨_,List.getElem_mem c,b⟩;rw[this];exact decide_eq_true (by omega)
section
variable (dg:Hdr→List UInt8)
def dsOf(l:List Crt):List (List UInt8):=l.map fun c=>dg c.hdr
def Zex(ds:List (List UInt8))(d:List UInt8):Int:=idxI (·==d) ds
def Zez(a r:Int)(c:Crt):Bool:=c.hdr.author==a&&c.hdr.round==r
def Zif(l:List Crt)(h:Hdr):Bool:=l.any (Zez h.author h.round)
def Zdu(l:List Crt)(ds:List (List UInt8))(r:Int)(p:List UInt8):Bool:=match l[(Zex ds p).toNat]? with|some c=>decide (0≤Zex ds p)&&c.hdr.round != r-1|none=>false
def Zgt(l:List Crt)(ds:List (List UInt8))(h:Hdr):Bool:=h.parents.any (Zdu l ds h.round)
def Zgu(ds:List (List UInt8))(h:Hdr):List (List UInt8):=h.parents.filter fun p=>decide (Zex ds p<0)
def parF(l:List Crt)(ds:List (List UInt8))(h:Hdr):Int:=if Zgt l ds h then 9 else if (Zgu ds h).length=0 then 0 else 8
variable (cF:Crt→Int)
def badC(l:List Crt)(i:Nat):Bool:=match l[i]? with|some c=>Zif (l.take i) c.hdr||decide (parF (l.take i) ((dsOf dg l).take i) c.hdr≠0)|none=>false
def dagF(l:List Crt):Int:=if 400<l.length then 12 else if l.any (fun c=>cF c != 0)then 12 else if (List.range l.length).any (badC dg l)then 12 else 0
def Zbu(l:List Crt)(r:Int):List Crt:=(List.range 4).filterMap fun n:Nat=>l.find? (Zez n r)
def Zbr(l:List Crt)(r:Int):List Crt:=l.filter fun c=>c.hdr.round==r
def Lone(l:List Crt):Prop:=l.Pairwise fun x y=>¬(x.hdr.author=y.hdr.author∧x.hdr.round=y.hdr.round)
def Auth(l:List Crt):Prop:=∀c∈l,0≤c.hdr.author∧c.hdr.author≤3
theorem Zet{a r:Int}{c:Crt}:Zez a r c=true↔c.hdr.author=a∧c.hdr.round=r:=by simp[Zez]
theorem Zlq(h:Lone l){x y:Crt}(d:x∈l)(g:y∈l)(e:x.hdr.author=y.hdr.author)(f:x.hdr.round=y.hdr.round):x=y:=by
 induction l with
 |nil=>cases d
 |cons c l ih =>
  unfold Lone at h;rw[List.pairwise_cons]at h
  rcases List.mem_cons.1 d with rfl|b<;>rcases List.mem_cons.1 g with rfl|a
  ·rfl
  ·exact absurd ⟨e,f⟩ (h.1 y a)
  ·exact absurd ⟨e.symm,f.symm⟩ (h.1 x b)
  ·exact ih h.2 b a
theorem Zh0{r:Int}(g:Lone l)(f:Auth l){c:Crt}:c∈Zbu l r↔c∈Zbr l r:=by
 unfold Zbu Zbr;rw[List.mem_filterMap,List.mem_filter];constructor
 ·rintro⟨n,_,a⟩;have e:=List.mem_of_find?_eq_some a;have b:=Zet.1 (List.find?_some a);exact⟨e,by simp[b.2]⟩
 ·rintro⟨e,b⟩;have b:c.hdr.round=r:=by simpa using b
  have i:=f c e;refine⟨c.hdr.author.toNat,List.mem_range.2 (by omega),?_⟩;have hn:((c.hdr.author.toNat:Nat):Int)=c.hdr.author:=by omega
  rw[hn];cases a:l.find? (Zez c.hdr.author r)with
  |none =>
   have:=List.find?_eq_none.1 a c e;exact absurd (Zet.2 ⟨rfl,b⟩) (by simpa using this)
  |some d =>
   have k1:=List.mem_of_find?_eq_some a;have k2:=Zet.1 (List.find?_some a);rw[Zlq g k1 e k2.1 (by rw[k2.2,b])]
theorem Zhu(l:List Crt)(r:Int):(Zbu l r).Pairwise fun x y=>x.hdr.author<y.hdr.author:=by
 unfold Zbu;rw[List.pairwise_filterMap];refine List.Pairwise.imp ?_ List.pairwise_lt_range;intro a b e x c y f;have d:=Zet.1 (List.find?_some c);have g:=Zet.1 (List.find?_some f);rw[d.1,g.1];omega
theorem Zrx(h:l.Pairwise fun x y=>x.hdr.author<y.hdr.author):l.Nodup :=
 h.imp fun {a b} c e=>by rw[e]at c;omega
theorem Zor(r:Int)(d:Lone l):(Zbr l r).Nodup:=by
 unfold Zbr;have h:l.Nodup:=List.Pairwise.imp (fun {a b} c e=>c (by rw[e];exact⟨rfl,rfl⟩)) d;exact List.Pairwise.sublist List.filter_sublist h
theorem Zkb(r:Int)(a:Lone l)(b:Auth l):(Zbu l r).Perm (Zbr l r) :=
 (List.perm_ext_iff_of_nodup (Zrx (Zhu l r)) (Zor r a)).2 fun _=>Zh0 a b
theorem Zp7{out:List Crt}{r:Int}(e:Lone l)(f:Auth l)(hp:out.Perm (Zbr l r))(i:out.Pairwise fun x y=>x.hdr.author≤y.hdr.author):out=Zbu l r:=by
 refine List.Perm.eq_of_pairwise (le:=fun x y=>x.hdr.author≤y.hdr.author) (fun a b j g k m=>?_) i ((Zhu l r).imp fun {a b} h=>by omega) (hp.trans (Zkb r e f).symm);have c:=hp.mem_iff.1 j;have d:=(Zh0 e f).1 g;unfold Zbr at c d;rw[List.mem_filter]at c d;exact Zlq e c.1 d.1 (by omega) (by have:=c.2;have:=d.2;simp at *;omega)
theorem Zmm(r:Int)(a:Lone l)(b:Auth l):(Zbu l r).length=(Zbr l r).length:=(Zkb r a b).length_eq
theorem Zvt(l:List Crt)(r:Int):(Zbu l r).length≤4:=by
 unfold Zbu;exact Zg (List.length_filterMap_le _ _) (by simp)
theorem Zyt{dg:Hdr→List UInt8}(h:∀j,j<l.length→badC dg l j=false):Lone l:=by
 unfold Lone;rw[List.pairwise_iff_getElem];intro i j hi c e a;have b:=h j c;unfold badC at b;rw[Zp c]at b;simp only[Bool.or_eq_false_iff]at b;have:=b.1;unfold Zif at this;rw[List.any_eq_false]at this
 have d:l[i]∈l.take j:=by
  rw[List.mem_take_iff_getElem];exact⟨i,by omega,rfl⟩
 exact this _ d (Zet.2 a)
theorem Zys{dg:Hdr→List UInt8}(h:(List.range l.length).any (badC dg l)=false):∀j,j<l.length→badC dg l j=false:=fun j a=>by
 rw[List.any_eq_false]at h
 simpa using h j (List.mem_range.2 a)
theorem dagF_zero{dg:Hdr→List UInt8}{cF:Crt→Int}(h:dagF dg cF l=0):l.length≤400∧(∀c∈l,cF c=0)∧∀j,j<l.length→badC dg l j=false:=by
 unfold dagF at h;split at h
 ·cases h
 ·split at h
  ·cases h
  ·split at h
   ·cases h
   ·rename_i e a d;refine⟨by omega,fun c b=>?_,Zys (by simpa using d)⟩;rw[Bool.not_eq_true,List.any_eq_false]at a;simpa using a c b
def Zd0(l:List Crt):Nat→Int→Int
 |0,r=>r
 |n+1,r=>if 3≤(Zbu l r).length then Zd0 l n (r+1)else r
def Zu1(l:List Crt):Int:=Zd0 l (l.length+1) 1
theorem Zsf{r:Int}(h:0<(Zbr l r).length):∃c∈l,c.hdr.round=r:=by
 obtain⟨c,a⟩:=List.exists_mem_of_length_pos h;unfold Zbr at a;rw[List.mem_filter]at a;exact⟨c,a.1,by simpa using a.2⟩
theorem Zlo{l:List Crt}:∀(n:Nat) (r:Int) (k:Nat),k≤n→(∀j:Nat,j<k→3≤(Zbu l (r+j)).length)→Zd0 l n r=Zd0 l (n-k) (r+k)
 |n,r,0,_,_=>by simp
 |0,r,k+1,h,_=>by omega
 |n+1,r,k+1,h,b=>by
  have a:=b 0 (by omega)
  simp only[Int.ofNat_zero,Int.add_zero]at a
  rw[Zd0,if_pos a,Zlo n (r+1) k (by omega) (fun j c=>by have:=b (j+1) (by omega);rw[show r+((j+1:Nat):Int)=r+1+j by omega]at this;exact this)]
  rw[show n+1-(k+1)=n-k by omega,show r+((k+1:Nat):Int)=r+1+k by omega]
theorem rounds_len:∀(k:Nat) (r:Int),(∀j:Nat,j<k→1≤(Zbr l (r+j)).length)→k≤l.length:=by
 intro k
 induction k generalizing l with
 |zero=>intro r _;omega
 |succ k ih =>
  intro r h;obtain⟨c,d,f⟩:=Zsf (h k (by omega));have g:c∈l:=d
  have m:(l.filter fun x=>x.hdr.round != r+k).length+1≤l.length:=by
   have a:=List.length_filter_lt_length_iff_exists (p:=fun x:Crt=>x.hdr.round != r+k) (l:=l);have:=a.2 ⟨c,d,by simp[f]⟩;omega
  have:=ih (l:=l.filter fun x=>x.hdr.round != r+k) r (fun j i=>by
   have a:=h j (by omega)
   have e:Zbr (l.filter fun x=>x.hdr.round != r+k) (r+j)=Zbr l (r+j):=by
    unfold Zbr;rw[List.filter_filter];refine List.filter_congr fun x _=>?_
    by_cases b:x.hdr.round=r+j
    ·simp[b];omega
    ·simp[b]
   rw[e];exact a)
  omega
theorem nextR_is(c:Lone l)(b:Auth l)(h:∀j:Nat,j<k→3≤(Zbu l (1+j)).length)(e:(Zbu l (1+k)).length<3):Zu1 l=1+k:=by
 have d:k≤l.length:=rounds_len k 1 fun j a=>by have:=h j a;rw[Zmm _ c b]at this;omega
 unfold Zu1;rw[Zlo (l.length+1) 1 k (by omega) h,show l.length+1-k=(l.length-k)+1 by omega,Zd0,if_neg (by omega)]
end
theorem Zh1(g:Nat)(lb:Array Value)(p:List UInt8→Bool)(eg:∀args w,(callFunc g args).run prog w=.ok (.enter g args) w)(vl:Value)(l:List (List UInt8))(w:World)(s:RDigs w.cell? vl l)(hp:∀(W:World) (d:Value) (x:List UInt8),Below w.heap.size w W→Zan W.cell? d x→Calls prog g (#[d]++lb) W fun e w'=>e=.returned (.bool (p x))∧Below W.heap.size W w') :
 Calls prog 179 #[vl,.func (.func g) #[] lb] w fun e w'=>e=.returned (.int .i64 (idxI p l))∧Below w.heap.size w w':=by
 obtain⟨A,c,rfl,m⟩:=id s;clear m;obtain⟨_,h,B,r⟩:=s.at;have u:=Zb r;have y:=Zb hp;clear s r hp;go_enter func179,ntmps179;go_wp2
 go_loopw [8] (fun i wr=>∃k:Nat,k≤l.length∧i=.int .i64 k∧Hid (∀j (o:j<l.length),j<k→p l[j]=false)∧Below w.heap.size w wr) (fun i _=>l.length-(intOf i).toNat)
 case atStart=>exact⟨0,Zf _,rfl,fun j _ o=>by omega,Zm _ _⟩
 case round =>
  obtain⟨k,C,rfl,f,a⟩:=hrel
  by_cases n:k<l.length
  ·obtain⟨b0,o0,d,rfl,q0,hd⟩:=u.out k n;have c0:=Zaa a _ _ q0;have v:Hid (Zan wr.cell? d l[k]):=hd.mono (Zaa a);clear q0;go_wp2_with fail;refine(y.out _ d l[k] a v.out).mono ?_;rintro e w1 ⟨rfl,q⟩;have b:=a.trans (q.mono a.size);clear v q c0;cases e1:p l[k]
   ·have t:=Zb e1;clear e1;go_wp2;go_roundw
    case rel=>exact⟨k+1,by omega,by go_num,fun j o z=>by
     by_cases e:j=k
     ·subst e;exact t.out
     ·exact f.out j o (by omega),b⟩
    case measure=>simp[intOf];omega
   ·have t:=Zb e1;clear e1;go_wp2;go_ret;exact⟨Zak (Zjp n f.out t.out).symm,b⟩
  ·go_wp2;go_ret;exact⟨Zak (Zls fun j o=>f.out j o (by omega)).symm,a⟩
theorem Zlw(g:Nat)(lb:Array Value)(p:List UInt8→Bool)(eg:∀args w,(callFunc g args).run prog w=.ok (.enter g args) w)(vl:Value)(l:List (List UInt8))(w:World)(c:RDigs w.cell? vl l)(hp:∀(W:World) (d:Value) (x:List UInt8),Below w.heap.size w W→Zan W.cell? d x→Calls prog g (#[d]++lb) W fun e w'=>e=.returned (.bool (p x))∧Below W.heap.size W w') :
 Calls prog 169 #[vl,.func (.func g) #[] lb] w fun e w'=>e=.returned (.bool (l.any p))∧Below w.heap.size w w':=by
 have j:=Zb hp;clear hp;rw[←Zkr p l];obtain⟨i,hi⟩:∃i,Hid (idxI p l=i):=⟨_,rfl⟩;rw[hi.out];go_enter func169,ntmps169;go_wp2_with fail;refine(Zh1 g lb p eg vl l _ c j.out).mono ?_;rintro e w1 ⟨rfl,f⟩;rw[hi.out];clear hi c
 by_cases b:0≤i
 ·have a:Hid (decide (0≤i)=true):=decide_eq_true b;go_wp2;go_ret;exact⟨Zao a.out.symm,f⟩
 ·have a:Hid (decide (0≤i)=false):=decide_eq_false b;go_wp2;go_ret;exact⟨Zao (by rw[a.out]),f⟩
theorem Zlt(g:Nat)(lb:Array Value)(p:Crt→Bool)(eg:∀args w,(callFunc g args).run prog w=.ok (.enter g args) w)(vl:Value)(l:List (Crt))(w:World)(t:RCrts w.cell? vl l)(hp:∀(W:World) (cs:List Value) (x:Crt),Below w.heap.size w W→RCrt W.cell? cs x→Calls prog g (#[.agg cs.toArray]++lb) W fun e w'=>e=.returned (.bool (p x))∧Below W.heap.size W w') :
 Calls prog 193 #[vl,.func (.func g) #[] lb] w fun e w'=>e=.returned (.int .i64 (idxI p l))∧Below w.heap.size w w':=by
 obtain⟨A,c,rfl,f⟩:=id t;clear f;obtain⟨_,z,B,o⟩:=t.at;have r:=Zb o;have h:=Zb hp;clear t o hp;go_enter func193,ntmps193;go_wp2
 go_loopw [8] (fun i wr=>∃k:Nat,k≤l.length∧i=.int .i64 k∧Hid (∀j (n:j<l.length),j<k→p l[j]=false)∧Below w.heap.size w wr) (fun i _=>l.length-(intOf i).toNat)
 case atStart=>exact⟨0,Zf _,rfl,fun j _ n=>by omega,Zm _ _⟩
 case round =>
  obtain⟨k,D,rfl,d,a⟩:=hrel
  by_cases m:k<l.length
  ·obtain⟨b0,o0,vb,vp,vv,rfl,q0,q1,q2,q3,q4,C,hp,y⟩:=r.out k m;have c0:=Zaa a _ _ q0;have c1:=Zaa a _ _ q1;have c2:=Zaa a _ _ q2;have c3:=Zaa a _ _ q3;have c4:=Zaa a _ _ q4;have u:Hid (RCrt wr.cell? [.int .i64 l[k].hdr.author,.int .i64 l[k].hdr.round,vb,vp,vv] l[k]):=⟨vb,vp,vv,rfl,C.mono Ze (Zaa a),hp.mono Ze (Zaa a),y.mono (Zaa a)⟩;clear q0 q1 q2 q3 q4;go_wp2_with fail;refine(h.out _ [.int .i64 l[k].hdr.author,.int .i64 l[k].hdr.round,vb,vp,vv] l[k] a u.out).mono ?_;rintro e w1 ⟨rfl,q⟩;have b:=a.trans (q.mono a.size);clear u q c0 c1 c2 c3 c4;cases e1:p l[k]
   ·have s:=Zb e1;clear e1;go_wp2;go_roundw
    case rel=>exact⟨k+1,by omega,by go_num,fun j n v=>by
     by_cases e:j=k
     ·subst e;exact s.out
     ·exact d.out j n (by omega),b⟩
    case measure=>simp[intOf];omega
   ·have s:=Zb e1;clear e1;go_wp2;go_ret;exact⟨Zak (Zjp m d.out s.out).symm,b⟩
  ·go_wp2;go_ret;exact⟨Zak (Zls fun j n=>d.out j n (by omega)).symm,a⟩
theorem Zh2(g:Nat)(lb:Array Value)(p:Crt→Bool)(eg:∀args w,(callFunc g args).run prog w=.ok (.enter g args) w)(vl:Value)(l:List (Crt))(w:World)(c:RCrts w.cell? vl l)(hp:∀(W:World) (cs:List Value) (x:Crt),Below w.heap.size w W→RCrt W.cell? cs x→Calls prog g (#[.agg cs.toArray]++lb) W fun e w'=>e=.returned (.bool (p x))∧Below W.heap.size W w') :
 Calls prog 183 #[vl,.func (.func g) #[] lb] w fun e w'=>e=.returned (.bool (l.any p))∧Below w.heap.size w w':=by
 have f:=Zb hp;clear hp;rw[←Zkr p l];obtain⟨i,hi⟩:∃i,Hid (idxI p l=i):=⟨_,rfl⟩;rw[hi.out];go_enter func183,ntmps183;go_wp2_with fail;refine(Zlt g lb p eg vl l _ c f.out).mono ?_;rintro e w1 ⟨rfl,d⟩;rw[hi.out];clear hi c
 by_cases b:0≤i
 ·have a:Hid (decide (0≤i)=true):=decide_eq_true b;go_wp2;go_ret;exact⟨Zao a.out.symm,d⟩
 ·have a:Hid (decide (0≤i)=false):=decide_eq_false b;go_wp2;go_ret;exact⟨Zao (by rw[a.out]),d⟩
structure CV where
 x:Crt
 lo:0≤x.hdr.author
 hi:x.hdr.author≤3
 b:Option Addr
 bc:Nat
 p:Option Addr
 pc:Nat
 v:Option Addr
 vc:Nat
instance:Inhabited CV:=⟨⟨⟨⟨0,0,[],[]⟩,[]⟩,by decide,by decide,none,0,none,0,none,0⟩⟩
def encC(y:CV):List Value:=[.int .i64 y.x.hdr.author,.int .i64 y.x.hdr.round,.slice y.b y.x.hdr.batches.length y.bc,.slice y.p y.x.hdr.parents.length y.pc,.slice y.v y.x.voters.length y.vc]
theorem Zks(l:List Value)(h:j<l.length):l[j]?=some l[j]! :=by
 rw[Zp h,getElem!_pos l j h]
def cfC(a b:CV):Int:=a.x.hdr.author-b.x.hdr.author
theorem ltC(a b:CV):ltOf cfC a b=decide (a.x.hdr.author<b.x.hdr.author):=by
 unfold ltOf cfC
 by_cases h:a.x.hdr.author<b.x.hdr.author
 ·simp[h];omega
 ·simp[h];omega
theorem swoC:Sort.SWO (ltOf cfC) where
 irrefl x:=by rw[ltC];simp
 trans x y z h1 h2:=by rw[ltC]at *;simp at *;omega
 ntrans x y z h1 h2:=by rw[ltC]at *;simp at *;omega
theorem Zxb(x y:CV)(W:World):Calls prog 168 #[.agg (encC x).toArray,.agg (encC y).toArray] W fun e w'=>e=.returned (.int .i64 (cfC x y))∧∃q os',w'=Sort.grow (W.drewN q) os':=by
 obtain⟨x,xlo,xhi,b1,bc1,p1,pc1,v1,vc1⟩:=x;obtain⟨y,ylo,yhi,b2,bc2,p2,pc2,v2,vc2⟩:=y;simp only[encC,cfC];generalize x.hdr.author=a at *;generalize y.hdr.author=b at *;go_enter func168,ntmps168;go_wp2;go_ret;exact⟨rfl,0,_,by rw[Sort.alloc_eq_grow,Sort.alloc_eq_grow,Sort.grow_grow];rfl⟩
theorem cmpLaysC(blk off size:Nat)(w:World):CmpLays prog 168 #[] encC 5 cfC blk off size w:=fun _ _ _ _ x y=>Zxb x y _
theorem Zgk[Inhabited α](enc:α→List Value)(k:Nat)(w:World)(blk off n:Nat)(d:Array α)(os:Array Obj)(b:blk<w.heap.size):w.grownBy (sortWorldK enc k w blk off n d os) (some blk):=by
 refine⟨rfl,rfl,rfl,size_sortWorldK_c enc k w blk off n d os,fun i hi a=>?_⟩;unfold sortWorldK;rw[Sort.heap_grow_old _ _ (by rw[Sort.size_putRowK];exact hi)];show((Sort.ahead w n).heap.modify blk _)[i]?=_;rw[Array.getElem?_modify,if_neg (fun e=>a (by rw[e]))];rfl
theorem noneC(h:View):RCrts h (.slice none 0 0) []:=⟨none,0,rfl,Za _,Zf _,by simp,fun _=>rfl,fun h=>by simp at h⟩
theorem Zpy{w0:World}(v:Value)(xs:List Crt)(W:World)(b:Nat)(m:OwnSl 5 (fun _ cs x=>RCrt w0.cell? cs x) 79 W b v xs)(Y:Auth xs)(hl:xs.length≤400)(p:Below w0.heap.size w0 W)(U:w0.heap.size≤b) :
 Calls prog 152 #[v,.func (.func 168) #[] #[]] W fun e w'=>e=.returned (.tuple #[])∧Below w0.heap.size w0 w'∧∃ys,ys.Perm xs∧(ys.Pairwise fun x y=>x.hdr.author≤y.hdr.author)∧RCrts w'.cell? v ys:=by
 have hr:=m.reads (bs:=88) (fun _ _ _ _ h _=>h) (by omega);obtain⟨css,Q,_,_⟩:=m.own
 rcases Q.2 with ⟨rfl,hn⟩|⟨g,cap,cur,rfl,X,I,r,G,T,_⟩
 ·have V:xs=[]:=List.eq_nil_of_length_eq_zero hn;subst V;refine(AnyF.slices_SortFunc_none Zoh none 0 _ W).mono ?_;rintro e w' ⟨rfl,rfl⟩;exact⟨rfl,p,[],List.Perm.refl _,List.Pairwise.nil,noneC _⟩
 ·obtain⟨A',c',e,_,_,L,_,N⟩:=hr;injection e with e1 e2 e3;subst e1 e3
  have A:∀i (hi:i<xs.length),∃y:CV,y.x=xs[i]∧RCrt w0.cell? (encC y) y.x∧∀j,j<5→W.cell? ⟨g,0+i*5+j,none⟩=(encC y)[j]?:=fun i hi=>by
   obtain⟨b',o',ea,M⟩:=N (by omega);injection ea with ea;injection ea with eb eo _;subst eb eo;obtain⟨cs,_,q,vb,vp,vv,rfl,r1,r2,r3⟩:=M i hi;obtain⟨bA,bc,rfl,_⟩:=id r1;obtain⟨pA,pc,rfl,_⟩:=id r2;obtain⟨vA,vc,rfl,_⟩:=id r3;have S:=Y _ (List.getElem_mem hi);exact⟨⟨xs[i],S.1,S.2,bA,bc,pA,pc,vA,vc⟩,rfl,⟨_,_,_,rfl,r1,r2,r3⟩,q⟩
  obtain⟨d,f,hd⟩:∃d:Array CV,∃R:d.size=xs.length,∀i (hi:i<xs.length),(d[i]'(by omega)).x=xs[i]∧RCrt w0.cell? (encC (d[i]'(by omega))) (d[i]'(by omega)).x∧∀j,j<5→W.cell? ⟨g,0+i*5+j,none⟩=(encC (d[i]'(by omega)))[j]? :=
   ⟨Array.ofFn (fun i:Fin xs.length=>Classical.choose (A i i.2)),by simp,fun i hi=>by simpa using Classical.choose_spec (A i hi)⟩
  have O:Sort.HoldsK encC 5 W g 0 d:=fun t ht=>by
   rw[Sort.size_flatK]at ht;have h5:t/5<xs.length:=by omega
   have F:=(hd (t/5) h5).2.2 (t%5) (by omega);rw[show 0+t/5*5+t%5=0+t by omega]at F;rw[Sort.get_flatK _ _ _ _ ht];refine⟨?_,?_⟩
   ·rw[F,getElem!_pos d (t/5) (by omega)];exact Zks _ (show t%5<5 by omega)
   ·exact Blk.frozen (show Blk W g 79 cur from I) _
  have u:d.toList.map (·.x)=xs:=by
   apply List.ext_getElem
   ·simp[f]
   ·intro i Q s;simp only[List.getElem_map,Array.getElem_toList];exact(hd i s).1
  have eg:∀args w,(callFunc 168 args).run prog w=.ok (.enter 168 args) w:=enters_of func168 (by kernel_rfl) rfl
  have o:=AnyQ.slices_SortFunc Zoh 5 (fun w=>by kernel_rfl) (fun w=>by kernel_rfl) encC (fun _=>rfl) (fun x v P=>by simp[encC]at P;rcases P with rfl|rfl|rfl|rfl|rfl<;>rfl) cfC swoC 168 #[] g 0 cap d W eg (cmpLaysC g 0 d.size W) O (by exact(Array.getElem?_eq_some_iff.1 I).1) (by omega)
  rw[f]at o;refine o.mono ?_;rintro e w' ⟨rfl,d',n,os,hp,R,rfl⟩;have z:g<W.heap.size:=(Array.getElem?_eq_some_iff.1 I).1;have hg:=Zgk encC 5 W g 0 n d' os z;have B:Below w0.heap.size w0 (sortWorldK encC 5 W g 0 n d' os):=Zab p p.size hg (by intro k e;injection e with e;omega);have E:d'.size=xs.length:=hp.1.trans f
  have l:d'.toList.Perm d.toList:=by
   have s:=hp.2.2;rw[←f]at s;simp at s;rw[List.take_of_length_le (by simp[hp.1])]at s;exact s
  have K:=holdsK_sortWorldK_c encC 5 W g 0 d d' n os O z hp.1;refine⟨rfl,B,d'.toList.map (·.x),by rw[←u];exact l.map _,?_,?_⟩
  ·rw[List.pairwise_map,List.pairwise_iff_getElem];intro i j hi H J;simp at hi H;have:=R i j (Zf _) J (by omega);rw[ltC,getElem!_pos d' i (by omega),getElem!_pos d' j (by omega)]at this;simp at this⊢;omega
  ·have a:(d'.toList.map (·.x)).length=xs.length:=by simp[E]
   refine⟨some ⟨g,0,none⟩,cap,by rw[a],by rw[a];exact r,G,by rw[a];exact L,(fun h=>by cases h),fun h0=>⟨g,0,rfl,fun i hi=>?_⟩⟩;rw[a]at hi;refine⟨encC (d'[i]'(by omega)),rfl,fun j H=>?_,?_⟩
   ·have:=(K.cell (i:=i) (c:=j) (by omega) H).1;rw[getElem!_pos d' i (by omega)]at this;rw[Zks (encC (d'[i]'(by omega))) H];exact this
   ·have D:(d'[i]'(by omega))∈d.toList:=l.mem_iff.1 (by simp);obtain⟨k,Z,C⟩:=List.getElem_of_mem D;have F:=(hd k (by simpa[f]using Z)).2.1;simp only[Array.getElem_toList]at C;rw[C]at F;simp only[List.getElem_map,Array.getElem_toList];exact RCrt.mono _ _ _ _ F (Zaa B)
theorem Zsg(g:Nat)(lb:Array Value)(p:Bat→Bool)(eg:∀args w,(callFunc g args).run prog w=.ok (.enter g args) w)(vl:Value)(l:List (Bat))(w:World)(r:RBats w.cell? vl l)(hp:∀(W:World) (cs:List Value) (x:Bat),Below w.heap.size w W→RBat W.cell? cs x→Calls prog g (#[.agg cs.toArray]++lb) W fun e w'=>e=.returned (.bool (p x))∧Below W.heap.size W w') :
 Calls prog 226 #[vl,.func (.func g) #[] lb] w fun e w'=>e=.returned (.int .i64 (idxI p l))∧Below w.heap.size w w':=by
 obtain⟨A,c,rfl,f⟩:=id r;clear f;obtain⟨_,h,B,q⟩:=r.at;have u:=Zb q;have y:=Zb hp;clear r q hp;go_enter func226,ntmps226;go_wp2
 go_loopw [8] (fun i wr=>∃k:Nat,k≤l.length∧i=.int .i64 k∧Hid (∀j (n:j<l.length),j<k→p l[j]=false)∧Below w.heap.size w wr) (fun i _=>l.length-(intOf i).toNat)
 case atStart=>exact⟨0,Zf _,rfl,fun j _ n=>by omega,Zm _ _⟩
 case round =>
  obtain⟨k,C,rfl,d,a⟩:=hrel
  by_cases m:k<l.length
  ·obtain⟨b0,o0,vt,rfl,q0,q1,q2,ht,t⟩:=u.out k m;have c0:=Zaa a _ _ q0;have c1:=Zaa a _ _ q1;have c2:=Zaa a _ _ q2;have v:Hid (RBat wr.cell? [.int .i64 l[k].author,.int .i64 l[k].number,vt] l[k]):=⟨vt,rfl,ht.mono (Zaa a),t⟩;clear q0 q1 q2;go_wp2_with fail;refine(y.out _ [.int .i64 l[k].author,.int .i64 l[k].number,vt] l[k] a v.out).mono ?_;rintro e w1 ⟨rfl,o⟩;have b:=a.trans (o.mono a.size);clear v o c0 c1 c2;cases e1:p l[k]
   ·have s:=Zb e1;clear e1;go_wp2;go_roundw
    case rel=>exact⟨k+1,by omega,by go_num,fun j n z=>by
     by_cases e:j=k
     ·subst e;exact s.out
     ·exact d.out j n (by omega),b⟩
    case measure=>simp[intOf];omega
   ·have s:=Zb e1;clear e1;go_wp2;go_ret;exact⟨Zak (Zjp m d.out s.out).symm,b⟩
  ·go_wp2;go_ret;exact⟨Zak (Zls fun j n=>d.out j n (by omega)).symm,a⟩
theorem Zsj(g:Nat)(lb:Array Value)(p:Bat→Bool)(eg:∀args w,(callFunc g args).run prog w=.ok (.enter g args) w)(vl:Value)(l:List (Bat))(w:World)(c:RBats w.cell? vl l)(hp:∀(W:World) (cs:List Value) (x:Bat),Below w.heap.size w W→RBat W.cell? cs x→Calls prog g (#[.agg cs.toArray]++lb) W fun e w'=>e=.returned (.bool (p x))∧Below W.heap.size W w') :
 Calls prog 196 #[vl,.func (.func g) #[] lb] w fun e w'=>e=.returned (.bool (l.any p))∧Below w.heap.size w w':=by
 have f:=Zb hp;clear hp;rw[←Zkr p l];obtain⟨i,hi⟩:∃i,Hid (idxI p l=i):=⟨_,rfl⟩;rw[hi.out];go_enter func196,ntmps196;go_wp2_with fail;refine(Zsg g lb p eg vl l _ c f.out).mono ?_;rintro e w1 ⟨rfl,d⟩;rw[hi.out];clear hi c
 by_cases b:0≤i
 ·have a:Hid (decide (0≤i)=true):=decide_eq_true b;go_wp2;go_ret;exact⟨Zao a.out.symm,d⟩
 ·have a:Hid (decide (0≤i)=false):=decide_eq_false b;go_wp2;go_ret;exact⟨Zao (by rw[a.out]),d⟩
theorem Zdn(nx au:Int)(v:Value)(l:List ByteArray)(w:World)(hv:RTexts w.cell? v l)(hs:∀s∈l,s.size≤140737488355328) :
 Calls prog 155 #[.agg #[.int .i64 nx,v],.int .i64 au] w fun e w'=>∃d1 d2,e=.returned (.tuple #[.agg #[.int .i64 (Zho nx l au),d1],.agg #[.int .i64 (Zp4 nx l au),.int .i64 (Zp3 nx l au),d2],.int .i64 (Zkc nx l au)])∧Below w.heap.size w w'∧RTexts (View.from w'.cell? w.heap.size) d1 (Zdm nx l au)∧RTexts (View.from w'.cell? w.heap.size) d2 (Znl nx l au):=by
 obtain⟨A,c,rfl,gz,_⟩:=hv.form;have gw:l.length≤c:=by obtain⟨_,_,e,h,_⟩:=hv;injection e with _ _ e;omega
 obtain⟨F,hF⟩:∃F,Hid (Zdt nx l=F):=⟨_,rfl⟩;obtain⟨E,hE⟩:∃E,Hid (Zkc nx l au=E):=⟨_,rfl⟩;have HE:Hid (E=if F≠0 then F else if inB au 0 3 then(if l.length=0 then 8 else if 1048576<nx then 6 else 0)else 2):=by show _=_;rw[←hE.out,←hF.out];rfl
 have H1:Hid (Zho nx l au=if E≠0 then 0 else nx+1):=by show _=_;rw[←hE.out];rfl
 have H2:Hid (Zp4 nx l au=if E≠0 then 0 else au):=by show _=_;rw[←hE.out];rfl
 have H3:Hid (Zp3 nx l au=if E≠0 then 0 else nx):=by show _=_;rw[←hE.out];rfl
 have H4:Hid (Zdm nx l au=if E≠0 then []else l.drop 4):=by show _=_;rw[←hE.out];rfl
 have H5:Hid (Znl nx l au=if E≠0 then []else l.take 4):=by show _=_;rw[←hE.out];rfl
 rw[hE.out];generalize Zho nx l au=X1 at H1⊢;generalize Zp4 nx l au=X2 at H2⊢;generalize Zp3 nx l au=X3 at H3⊢;generalize Zdm nx l au=X4 at H4⊢;generalize Znl nx l au=X5 at H5⊢;have Hs:=Zb hs;clear hs hE;go_enter func155,ntmps155;go_wp2_with fail;refine Zpr _ _ _ _ _ _ _ (fun W=>Calls prog _ _ W _) (fun W V U x s5 g5=>?_);refine(Zga nx _ l _ (hv.mono (Zaa g5)) Hs.out).mono ?_;rintro e w1 ⟨rfl,ho⟩;rw[hF.out];have r:=g5.trans (ho.mono g5.size);have V:=V.kept ho;have U:=U.kept ho;have x:=x.kept ho;have s2:=ho.size;clear g5 ho;have g0:=V.cell 0;have g1:=V.cell 1;simp at g0 g1
 have fin:∀f:Int,f≠0→E=f→∀(w':World),Below w.heap.size w w'→∃d1 d2,Ending.returned (.tuple #[.agg #[.int .i64 0,.slice none 0 0],.agg #[.int .i64 0,.int .i64 0,.slice none 0 0],.int .i64 f])=.returned (.tuple #[.agg #[.int .i64 X1,d1],.agg #[.int .i64 X2,.int .i64 X3,d2],.int .i64 E])∧Below w.heap.size w w'∧RTexts (View.from w'.cell? w.heap.size) d1 X4∧RTexts (View.from w'.cell? w.heap.size) d2 X5:=by
  intro f hy gr w' hb;subst gr;rw[H1.out,H2.out,H3.out,H4.out,H5.out,if_pos hy,if_pos hy,if_pos hy,if_pos hy,if_pos hy];exact⟨_,_,rfl,hb,RVec.nil _ _ _,RVec.nil _ _ _⟩
 have Fin:=Zb fin;clear fin
 by_cases ga:F=0
 ·subst ga;have g4:Hid (E=if inB au 0 3 then(if l.length=0 then 8 else if 1048576<nx then 6 else 0)else 2):=by show _=_;rw[HE.out];rfl
  clear HE
  by_cases h1:au<0
  ·have z:Hid (E=2):=by show _=_;rw[g4.out,if_neg (by simp[inB];omega)]
   go_wp2_with (refine Zj 2 U ?_);intro w2 D I
   have x:=x.grown I (by simp);have t:=Zab r (r).size I (by intro k e;injection e;omega);go_wp2_with (refine Zj 3 x ?_);intro w3 hB j;have D:=D.grown j (by simp);have a:=Zab t t.size j (by intro k e;injection e;omega);go_wp2;refine bodyPost_ret (Zbl rfl rfl rfl (by kernel_rfl) (by kernel_rfl) D rfl (by kernel_rfl) (by kernel_rfl) hB rfl) rfl ?_;exact Fin.out _ (by decide) (z).out _ a
  by_cases h2:4≤au
  ·have z:Hid (E=2):=by show _=_;rw[g4.out,if_neg (by simp[inB];omega)]
   go_wp2_with (refine Zj 2 U ?_);intro w2 D I
   have x:=x.grown I (by simp);have t:=Zab r (r).size I (by intro k e;injection e;omega);go_wp2_with (refine Zj 3 x ?_);intro w3 hB j;have D:=D.grown j (by simp);have a:=Zab t t.size j (by intro k e;injection e;omega);go_wp2;refine bodyPost_ret (Zbl rfl rfl rfl (by kernel_rfl) (by kernel_rfl) D rfl (by kernel_rfl) (by kernel_rfl) hB rfl) rfl ?_;exact Fin.out _ (by decide) (z).out _ a
  have g6:Hid (E=if l.length=0 then 8 else if 1048576<nx then 6 else 0):=by show _=_;rw[g4.out,if_pos (by simp[inB];omega)]
  clear g4
  by_cases h3:l.length=0
  ·have z:Hid (E=8):=by show _=_;rw[g6.out,if_pos h3]
   rw[h3]at g1;go_wp2_with (refine Zj 2 U ?_);intro w2 D I;have x:=x.grown I (by simp);have t:=Zab r (r).size I (by intro k e;injection e;omega);go_wp2_with (refine Zj 3 x ?_);intro w3 hB j;have D:=D.grown j (by simp);have a:=Zab t t.size j (by intro k e;injection e;omega);go_wp2;refine bodyPost_ret (Zbl rfl rfl rfl (by kernel_rfl) (by kernel_rfl) D rfl (by kernel_rfl) (by kernel_rfl) hB rfl) rfl ?_;exact Fin.out _ (by decide) (z).out _ a
  by_cases h4:1048576<nx
  ·have z:Hid (E=6):=by show _=_;rw[g6.out,if_neg h3,if_pos h4]
   have gp:¬(l.length:Int)=0:=by omega
   go_wp2_with (refine Zj 2 U ?_);intro w2 D I
   have x:=x.grown I (by simp);have t:=Zab r (r).size I (by intro k e;injection e;omega);go_wp2_with (refine Zj 3 x ?_);intro w3 hB j;have D:=D.grown j (by simp);have a:=Zab t t.size j (by intro k e;injection e;omega);go_wp2;refine bodyPost_ret (Zbl rfl rfl rfl (by kernel_rfl) (by kernel_rfl) D rfl (by kernel_rfl) (by kernel_rfl) hB rfl) rfl ?_;exact Fin.out _ (by decide) (z).out _ a
  have z:Hid (E=0):=by show _=_;rw[g6.out,if_neg h3,if_neg h4]
  have s6:1≤nx:=by
   have:=hF.out;simp only[Zdt]at this
   by_cases X:1≤nx
   ·exact X
   ·simp[inB,X]at this
  clear g6;have gp:¬(l.length:Int)=0:=by omega
  have ht:=hv.mono (Zaa r);obtain⟨KT,hm⟩:∃K,Hid (l.take 4=K):=⟨_,rfl⟩;obtain⟨KD,hl⟩:∃K,Hid (l.drop 4=K):=⟨_,rfl⟩;have g2:KD.length*16≤140737488355328:=by rw[←hl.out];simp;omega
  have Y:KT.length*16≤140737488355328:=by rw[←hm.out];simp;omega
  have s4:w.heap.size+3≤w1.heap.size:=by omega
  by_cases h5:4<l.length
  ·have G:=ht.take (k:=4) (by omega);have L:=ht.partP (lo:=4) (m:=l.length-4) (by omega);rw[List.take_of_length_le (by simp)]at L;rw[hm.out]at G;rw[hl.out]at L;have gq:(4:Int)<l.length:=by omega
   have c1:(4:Int)≤c:=by omega
   have c2:(4:Int)≤l.length:=by omega
   have c3:(l.length:Int)≤c:=by omega
   have c4:4≤c:=by omega
   have c5:¬c=4:=by omega
   have c6:¬4=c:=by omega
   have c7:4≤l.length:=by omega
   have c8:min (l.length:Int) 4=4:=by omega
   go_upto_region 11 with fail
   go_cut [9,17,26,33] (fun p _ _ _ w'=>∃gb A' c',p=.pointer (some ⟨gb,0,none⟩)∧w1.heap.size≤gb∧Blk w' gb 82 #[.int .i64 au,.int .i64 nx,.slice A' KT.length c']∧Below w1.heap.size w1 w'∧RTexts (View.from w'.cell? w1.heap.size) (.slice A' KT.length c') KT)
   case first =>
    refine Zr [10] (.q 0 (.q 1 (.q 2 (.q 3 (.q 4 (.q 5 (.q 6 (.alt 7 (.q 8 (.l 9 (.l 10 .nil))) 9 (.l 7 (.q 8 (.l 10 .nil))))))))))) fun W o=>?_
    repeat((first|refine pq (h:=⟨_,fun w' B=>by(have X:=V.kept B;have h0:=X.cell 0;have h1:=X.cell 1;simp at h0 h1;go_simp;exact rfl),?_⟩)|refine Zq ?_);simp only[sx])
    refine Zcm ?_ ?_
    ·refine Zd fun K i=>?_
     try simp only[sy]
     go_simp;refine(Zbv _ KT _ ((G).mono (Zaa o))).mono ?_;rintro e w2 ⟨d',rfl,O,d⟩;obtain⟨A',c',rfl⟩:=d.form;have b:=o.trans (O.mono o.size);have C:=b.size;have S:=d.reads_from (bs:=16) Y (b0:=w1.heap.size) o.size (g:=none) (by simp);refine i.out _ _ (b) fun B=>?_
     clear i K
     try simp only[sx]
     repeat(refine Zq ?_;simp only[sx])
     refine Zd fun K i=>?_
     try simp only[sy]
     go_simp;have J:=Zac w2 (.cells #[.int .i64 0,.int .i64 0,.slice none 0 0] 82);have a:=b.trans (J.mono C);have hn:=Blk.new w2 82 #[.int .i64 0,.int .i64 0,.slice none 0 0];refine i.out _ _ (a) fun B=>?_
     clear i K
     try simp only[sx]
     refine Zc fun K i=>?_
     try simp only[sy]
     refine Zh 3 hn ?_;intro w4 R n;refine i.out _ _ ?_;clear i K
     try simp only[sx]
     refine Zai ?_;go_wp2_with fail;go_meet;exact⟨_,A',c',rfl,C,R,Zab a a.size n (by intro k e;injection e;omega),S.mono (Za0 _ ((View.but_le _ _).trans ((Zn8 J (Za _)).trans (Zbn n))))⟩
    ·refine Zd fun K i=>?_
     try simp only[sy]
     go_simp;have J:=Zac W (.cells #[.int .i64 0,.int .i64 0,.slice none 0 0] 82);have a:=o.trans (J.mono o.size);have hn:=Blk.new W 82 #[.int .i64 0,.int .i64 0,.slice none 0 0];have he:=o.size;refine i.out _ _ (a) fun B=>?_
     clear i K
     try simp only[sx]
     refine Zd fun K i=>?_
     try simp only[sy]
     go_simp;refine(Zbv _ KT _ ((G).mono (Zaa a))).mono ?_;rintro e w2 ⟨d',rfl,O,d⟩;obtain⟨A',c',rfl⟩:=d.form;have b:=a.trans (O.mono a.size);have hw:=hn.kept O;have C:=O.size;simp at C;have S:=d.reads_from (bs:=16) Y (b0:=w1.heap.size) a.size (g:=some W.heap.size) (by simp);refine i.out _ _ (b) fun B=>?_
     clear i K
     try simp only[sx]
     repeat(refine Zq ?_;simp only[sx])
     refine Zc fun K i=>?_
     try simp only[sy]
     refine Zh 3 hw ?_;intro w4 R n;refine i.out _ _ ?_;clear i K
     try simp only[sx]
     refine Zai ?_;go_wp2_with fail;go_meet;exact⟨_,A',c',rfl,he,R,Zab b b.size n (by intro k e;injection e;omega),S.mono (Za0 _ (Zbn n))⟩
   case rest =>
    obtain⟨gb,A',c',rfl,gj,hf,u,hx⟩:=hcut;have h9:=V.kept u;have hg:=U.kept u;have h8:=x.kept u;have N:=r.trans (u.mono r.size);have gm:=u.size;have g7:=hf.lt;obtain⟨nx1,M⟩:∃y:Int,Hid (nx+1=y):=⟨_,rfl⟩;have e1:IntKind.i64.wrap (nx+1)=nx1:=by rw[IntKind.wrap_i64,←M.out];omega
    clear g0 g1;go_wp2_with fail;refine Zt (fun w'=>Below wc.heap.size wc w') (fun w'=>wc.grownBy w' (some (w.heap.size+1))) [11,12] (.q 0 (.q 1 (.q 2 (.q 3 (.q 4 (.q 5 (.q 6 (.q 9 (.l 7 (.q 8 (.l 10 (.l 11 (.qc 12 .nil))))))))))))) ?_ ?_
    ·exact⟨Zad _,Zbf _ _⟩
    intro W H o;have B:=o
    repeat((first|refine pq (h:=⟨_,fun w' B=>by(have X:=h9.grown B (by simp);have h0:=X.cell 0;have h1:=X.cell 1;have Q:=hf.grown B (by simp;omega);have h2:=Q.cell 0;have h3:=Q.cell 1;have h4:=Q.cell 2;simp at h0 h1 h2 h3 h4;go_simp;exact rfl),?_⟩)|refine Zq ?_);simp only[sx])
    refine Zd fun K i=>?_
    try simp only[sy]
    go_simp;refine(Zbv _ KD _ ((L).mono ((Zaa u).trans (Zaa H)))).mono ?_;rintro e w2 ⟨d',rfl,O,d⟩;obtain⟨B',e',rfl⟩:=d.form;have b:=H.trans (O.mono H.size);have gg:=H.size;have C:=O.size;refine i.out _ _ (Zal _ b) fun B=>?_
    clear i K
    try simp only[sx]
    repeat(refine Zq ?_;simp only[sx])
    refine Zd fun K i=>?_
    try simp only[sy]
    refine Zh 2 (hg.kept b) ?_;intro w3 D j;have P:=d.grown j (by omega);have hc:=(h8.kept b).grown j (by simp);have ha:=((hx.mono (Za0 _ (Zaa b))).mono (Zvb j (by omega)));refine i.out _ _ (Zae (Zal _ b) j) fun B=>?_
    clear i K
    try simp only[sx]
    refine Zc fun K i=>?_
    try simp only[sy]
    refine Zh 3 hc ?_;intro w4 hB n;have D:=D.grown n (by simp);have T:=P.grown n (by omega);refine i.out _ _ ?_;clear i K
    try simp only[sx]
    repeat(refine Zq ?_;simp only[sx])
    refine Zai ?_;go_wp2;refine bodyPost_ret (Zbl rfl rfl rfl (by kernel_rfl) (by kernel_rfl) D rfl (by kernel_rfl) (by kernel_rfl) hB rfl) rfl ?_;have Z:Below w.heap.size w w4:=Zab (Zab (N.trans (b.mono N.size)) (by omega) j (by intro k e;injection e;omega)) (by have:=j.size;omega) n (by intro k e;injection e;omega);refine⟨.slice B' KD.length e',.slice A' KT.length c',?_,Z,?_,?_⟩
    ·rw[H1.out,H2.out,H3.out,z.out,if_neg (by decide),if_neg (by decide),if_neg (by decide),M.out];rfl
    ·rw[H4.out,z.out,if_neg (by decide),hl.out];exact T.from_ (bs:=16) g2 (by omega)
    ·rw[H5.out,z.out,if_neg (by decide),hm.out];exact(ha.mono (Zvb n (by omega))).mono (Zbm (by omega))
  have gq:¬(4:Int)<l.length:=by omega
  have h6:(l.length:Int)≤4:=by omega
  have h7:min (l.length:Int) 4=l.length:=by omega
  have G:=ht;have hz:KT=l:=by rw[←hm.out];exact List.take_of_length_le (by omega)
  have hk:KD.length=0:=by rw[←hl.out];simp;omega
  have c3:(l.length:Int)≤c:=by omega
  have G:RTexts w1.cell? (.slice A l.length c) KT:=by rw[hz];exact ht
  have gy:=Zb hz;clear hz
  by_cases gu:l.length=c
  ·have L:RTexts w1.cell? (.slice A 0 0) KD:=RVec.stubP _ _ _ _ rfl hk;clear hk;subst gu;go_upto_region 11 with fail
   go_cut [9,17,26,33] (fun p _ _ _ w'=>∃gb A' c',p=.pointer (some ⟨gb,0,none⟩)∧w1.heap.size≤gb∧Blk w' gb 82 #[.int .i64 au,.int .i64 nx,.slice A' KT.length c']∧Below w1.heap.size w1 w'∧RTexts (View.from w'.cell? w1.heap.size) (.slice A' KT.length c') KT)
   case first =>
    refine Zr [10] (.q 0 (.q 1 (.q 2 (.q 3 (.q 4 (.q 5 (.q 6 (.alt 7 (.q 8 (.l 9 (.l 10 .nil))) 9 (.l 7 (.q 8 (.l 10 .nil))))))))))) fun W o=>?_
    repeat((first|refine pq (h:=⟨_,fun w' B=>by(have X:=V.kept B;have h0:=X.cell 0;have h1:=X.cell 1;simp at h0 h1;go_simp;exact rfl),?_⟩)|refine Zq ?_);simp only[sx])
    refine Zcm ?_ ?_
    ·refine Zd fun K i=>?_
     try simp only[sy]
     go_simp;refine(Zbv _ KT _ ((G).mono (Zaa o))).mono ?_;rintro e w2 ⟨d',rfl,O,d⟩;obtain⟨A',c',rfl⟩:=d.form;have b:=o.trans (O.mono o.size);have C:=b.size;have S:=d.reads_from (bs:=16) Y (b0:=w1.heap.size) o.size (g:=none) (by simp);refine i.out _ _ (b) fun B=>?_
     clear i K
     try simp only[sx]
     repeat(refine Zq ?_;simp only[sx])
     refine Zd fun K i=>?_
     try simp only[sy]
     go_simp;have J:=Zac w2 (.cells #[.int .i64 0,.int .i64 0,.slice none 0 0] 82);have a:=b.trans (J.mono C);have hn:=Blk.new w2 82 #[.int .i64 0,.int .i64 0,.slice none 0 0];refine i.out _ _ (a) fun B=>?_
     clear i K
     try simp only[sx]
     refine Zc fun K i=>?_
     try simp only[sy]
     refine Zh 3 hn ?_;intro w4 R n;refine i.out _ _ ?_;clear i K
     try simp only[sx]
     refine Zai ?_;go_wp2_with fail;go_meet;exact⟨_,A',c',rfl,C,R,Zab a a.size n (by intro k e;injection e;omega),S.mono (Za0 _ ((View.but_le _ _).trans ((Zn8 J (Za _)).trans (Zbn n))))⟩
    ·refine Zd fun K i=>?_
     try simp only[sy]
     go_simp;have J:=Zac W (.cells #[.int .i64 0,.int .i64 0,.slice none 0 0] 82);have a:=o.trans (J.mono o.size);have hn:=Blk.new W 82 #[.int .i64 0,.int .i64 0,.slice none 0 0];have he:=o.size;refine i.out _ _ (a) fun B=>?_
     clear i K
     try simp only[sx]
     refine Zd fun K i=>?_
     try simp only[sy]
     go_simp;refine(Zbv _ KT _ ((G).mono (Zaa a))).mono ?_;rintro e w2 ⟨d',rfl,O,d⟩;obtain⟨A',c',rfl⟩:=d.form;have b:=a.trans (O.mono a.size);have hw:=hn.kept O;have C:=O.size;simp at C;have S:=d.reads_from (bs:=16) Y (b0:=w1.heap.size) a.size (g:=some W.heap.size) (by simp);refine i.out _ _ (b) fun B=>?_
     clear i K
     try simp only[sx]
     repeat(refine Zq ?_;simp only[sx])
     refine Zc fun K i=>?_
     try simp only[sy]
     refine Zh 3 hw ?_;intro w4 R n;refine i.out _ _ ?_;clear i K
     try simp only[sx]
     refine Zai ?_;go_wp2_with fail;go_meet;exact⟨_,A',c',rfl,he,R,Zab b b.size n (by intro k e;injection e;omega),S.mono (Za0 _ (Zbn n))⟩
   case rest =>
    obtain⟨gb,A',c',rfl,gj,hf,u,hx⟩:=hcut;have h9:=V.kept u;have hg:=U.kept u;have h8:=x.kept u;have N:=r.trans (u.mono r.size);have gm:=u.size;have g7:=hf.lt;obtain⟨nx1,M⟩:∃y:Int,Hid (nx+1=y):=⟨_,rfl⟩;have e1:IntKind.i64.wrap (nx+1)=nx1:=by rw[IntKind.wrap_i64,←M.out];omega
    clear g0 g1;go_wp2_with fail;refine Zt (fun w'=>Below wc.heap.size wc w') (fun w'=>wc.grownBy w' (some (w.heap.size+1))) [11,12] (.q 0 (.q 1 (.q 2 (.q 3 (.q 4 (.q 5 (.q 6 (.q 9 (.l 7 (.q 8 (.l 10 (.l 11 (.qc 12 .nil))))))))))))) ?_ ?_
    ·exact⟨Zad _,Zbf _ _⟩
    intro W H o;have B:=o
    repeat((first|refine pq (h:=⟨_,fun w' B=>by(have X:=h9.grown B (by simp);have h0:=X.cell 0;have h1:=X.cell 1;have Q:=hf.grown B (by simp;omega);have h2:=Q.cell 0;have h3:=Q.cell 1;have h4:=Q.cell 2;simp at h0 h1 h2 h3 h4;go_simp;exact rfl),?_⟩)|refine Zq ?_);simp only[sx])
    refine Zd fun K i=>?_
    try simp only[sy]
    go_simp;refine(Zbv _ KD _ ((L).mono ((Zaa u).trans (Zaa H)))).mono ?_;rintro e w2 ⟨d',rfl,O,d⟩;obtain⟨B',e',rfl⟩:=d.form;have b:=H.trans (O.mono H.size);have gg:=H.size;have C:=O.size;refine i.out _ _ (Zal _ b) fun B=>?_
    clear i K
    try simp only[sx]
    repeat(refine Zq ?_;simp only[sx])
    refine Zd fun K i=>?_
    try simp only[sy]
    refine Zh 2 (hg.kept b) ?_;intro w3 D j;have P:=d.grown j (by omega);have hc:=(h8.kept b).grown j (by simp);have ha:=((hx.mono (Za0 _ (Zaa b))).mono (Zvb j (by omega)));refine i.out _ _ (Zae (Zal _ b) j) fun B=>?_
    clear i K
    try simp only[sx]
    refine Zc fun K i=>?_
    try simp only[sy]
    refine Zh 3 hc ?_;intro w4 hB n;have D:=D.grown n (by simp);have T:=P.grown n (by omega);refine i.out _ _ ?_;clear i K
    try simp only[sx]
    repeat(refine Zq ?_;simp only[sx])
    refine Zai ?_;go_wp2;refine bodyPost_ret (Zbl rfl rfl rfl (by kernel_rfl) (by kernel_rfl) D rfl (by kernel_rfl) (by kernel_rfl) hB rfl) rfl ?_;have Z:Below w.heap.size w w4:=Zab (Zab (N.trans (b.mono N.size)) (by omega) j (by intro k e;injection e;omega)) (by have:=j.size;omega) n (by intro k e;injection e;omega);refine⟨.slice B' KD.length e',.slice A' KT.length c',?_,Z,?_,?_⟩
    ·rw[H1.out,H2.out,H3.out,z.out,if_neg (by decide),if_neg (by decide),if_neg (by decide),M.out];rfl
    ·rw[H4.out,z.out,if_neg (by decide),hl.out];exact T.from_ (bs:=16) g2 (by omega)
    ·rw[H5.out,z.out,if_neg (by decide),hm.out];exact(ha.mono (Zvb n (by omega))).mono (Zbm (by omega))
  ·have L:=ht.partP (lo:=l.length) (m:=0) (by omega);have gv:¬c=l.length:=by omega
   have s0:¬(l.length:Int)=c:=by omega
   rw[show(l.drop l.length).take 0=KD from by rw[List.take_zero];exact(List.eq_nil_of_length_eq_zero hk).symm]at L;clear hk;go_upto_region 11 with fail
   go_cut [9,17,26,33] (fun p _ _ _ w'=>∃gb A' c',p=.pointer (some ⟨gb,0,none⟩)∧w1.heap.size≤gb∧Blk w' gb 82 #[.int .i64 au,.int .i64 nx,.slice A' KT.length c']∧Below w1.heap.size w1 w'∧RTexts (View.from w'.cell? w1.heap.size) (.slice A' KT.length c') KT)
   case first =>
    refine Zr [10] (.q 0 (.q 1 (.q 2 (.q 3 (.q 4 (.q 5 (.q 6 (.alt 7 (.q 8 (.l 9 (.l 10 .nil))) 9 (.l 7 (.q 8 (.l 10 .nil))))))))))) fun W o=>?_
    repeat((first|refine pq (h:=⟨_,fun w' B=>by(have X:=V.kept B;have h0:=X.cell 0;have h1:=X.cell 1;simp at h0 h1;go_simp;exact rfl),?_⟩)|refine Zq ?_);simp only[sx])
    refine Zcm ?_ ?_
    ·refine Zd fun K i=>?_
     try simp only[sy]
     go_simp;refine(Zbv _ KT _ ((G).mono (Zaa o))).mono ?_;rintro e w2 ⟨d',rfl,O,d⟩;obtain⟨A',c',rfl⟩:=d.form;have b:=o.trans (O.mono o.size);have C:=b.size;have S:=d.reads_from (bs:=16) Y (b0:=w1.heap.size) o.size (g:=none) (by simp);refine i.out _ _ (b) fun B=>?_
     clear i K
     try simp only[sx]
     repeat(refine Zq ?_;simp only[sx])
     refine Zd fun K i=>?_
     try simp only[sy]
     go_simp;have J:=Zac w2 (.cells #[.int .i64 0,.int .i64 0,.slice none 0 0] 82);have a:=b.trans (J.mono C);have hn:=Blk.new w2 82 #[.int .i64 0,.int .i64 0,.slice none 0 0];refine i.out _ _ (a) fun B=>?_
     clear i K
     try simp only[sx]
     refine Zc fun K i=>?_
     try simp only[sy]
     refine Zh 3 hn ?_;intro w4 R n;refine i.out _ _ ?_;clear i K
     try simp only[sx]
     refine Zai ?_;go_wp2_with fail;go_meet;exact⟨_,A',c',rfl,C,R,Zab a a.size n (by intro k e;injection e;omega),S.mono (Za0 _ ((View.but_le _ _).trans ((Zn8 J (Za _)).trans (Zbn n))))⟩
    ·refine Zd fun K i=>?_
     try simp only[sy]
     go_simp;have J:=Zac W (.cells #[.int .i64 0,.int .i64 0,.slice none 0 0] 82);have a:=o.trans (J.mono o.size);have hn:=Blk.new W 82 #[.int .i64 0,.int .i64 0,.slice none 0 0];have he:=o.size;refine i.out _ _ (a) fun B=>?_
     clear i K
     try simp only[sx]
     refine Zd fun K i=>?_
     try simp only[sy]
     go_simp;refine(Zbv _ KT _ ((G).mono (Zaa a))).mono ?_;rintro e w2 ⟨d',rfl,O,d⟩;obtain⟨A',c',rfl⟩:=d.form;have b:=a.trans (O.mono a.size);have hw:=hn.kept O;have C:=O.size;simp at C;have S:=d.reads_from (bs:=16) Y (b0:=w1.heap.size) a.size (g:=some W.heap.size) (by simp);refine i.out _ _ (b) fun B=>?_
     clear i K
     try simp only[sx]
     repeat(refine Zq ?_;simp only[sx])
     refine Zc fun K i=>?_
     try simp only[sy]
     refine Zh 3 hw ?_;intro w4 R n;refine i.out _ _ ?_;clear i K
     try simp only[sx]
     refine Zai ?_;go_wp2_with fail;go_meet;exact⟨_,A',c',rfl,he,R,Zab b b.size n (by intro k e;injection e;omega),S.mono (Za0 _ (Zbn n))⟩
   case rest =>
    obtain⟨gb,A',c',rfl,gj,hf,u,hx⟩:=hcut;have h9:=V.kept u;have hg:=U.kept u;have h8:=x.kept u;have N:=r.trans (u.mono r.size);have gm:=u.size;have g7:=hf.lt;obtain⟨nx1,M⟩:∃y:Int,Hid (nx+1=y):=⟨_,rfl⟩;have e1:IntKind.i64.wrap (nx+1)=nx1:=by rw[IntKind.wrap_i64,←M.out];omega
    clear g0 g1;go_wp2_with fail;refine Zt (fun w'=>Below wc.heap.size wc w') (fun w'=>wc.grownBy w' (some (w.heap.size+1))) [11,12] (.q 0 (.q 1 (.q 2 (.q 3 (.q 4 (.q 5 (.q 6 (.q 9 (.l 7 (.q 8 (.l 10 (.l 11 (.qc 12 .nil))))))))))))) ?_ ?_
    ·exact⟨Zad _,Zbf _ _⟩
    intro W H o;have B:=o
    repeat((first|refine pq (h:=⟨_,fun w' B=>by(have X:=h9.grown B (by simp);have h0:=X.cell 0;have h1:=X.cell 1;have Q:=hf.grown B (by simp;omega);have h2:=Q.cell 0;have h3:=Q.cell 1;have h4:=Q.cell 2;simp at h0 h1 h2 h3 h4;go_simp;exact rfl),?_⟩)|refine Zq ?_);simp only[sx])
    refine Zd fun K i=>?_
    try simp only[sy]
    go_simp;refine(Zbv _ KD _ ((L).mono ((Zaa u).trans (Zaa H)))).mono ?_;rintro e w2 ⟨d',rfl,O,d⟩;obtain⟨B',e',rfl⟩:=d.form;have b:=H.trans (O.mono H.size);have gg:=H.size;have C:=O.size;refine i.out _ _ (Zal _ b) fun B=>?_
    clear i K
    try simp only[sx]
    repeat(refine Zq ?_;simp only[sx])
    refine Zd fun K i=>?_
    try simp only[sy]
    refine Zh 2 (hg.kept b) ?_;intro w3 D j;have P:=d.grown j (by omega);have hc:=(h8.kept b).grown j (by simp);have ha:=((hx.mono (Za0 _ (Zaa b))).mono (Zvb j (by omega)));refine i.out _ _ (Zae (Zal _ b) j) fun B=>?_
    clear i K
    try simp only[sx]
    refine Zc fun K i=>?_
    try simp only[sy]
    refine Zh 3 hc ?_;intro w4 hB n;have D:=D.grown n (by simp);have T:=P.grown n (by omega);refine i.out _ _ ?_;clear i K
    try simp only[sx]
    repeat(refine Zq ?_;simp only[sx])
    refine Zai ?_;go_wp2;refine bodyPost_ret (Zbl rfl rfl rfl (by kernel_rfl) (by kernel_rfl) D rfl (by kernel_rfl) (by kernel_rfl) hB rfl) rfl ?_;have Z:Below w.heap.size w w4:=Zab (Zab (N.trans (b.mono N.size)) (by omega) j (by intro k e;injection e;omega)) (by have:=j.size;omega) n (by intro k e;injection e;omega);refine⟨.slice B' KD.length e',.slice A' KT.length c',?_,Z,?_,?_⟩
    ·rw[H1.out,H2.out,H3.out,z.out,if_neg (by decide),if_neg (by decide),if_neg (by decide),M.out];rfl
    ·rw[H4.out,z.out,if_neg (by decide),hl.out];exact T.from_ (bs:=16) g2 (by omega)
    ·rw[H5.out,z.out,if_neg (by decide),hm.out];exact(ha.mono (Zvb n (by omega))).mono (Zbm (by omega))
 ·have z:Hid (E=F):=by show _=_;rw[HE.out,if_pos ga]
  go_wp2_with (refine Zj 2 U ?_);intro w2 D I
  have x:=x.grown I (by simp);have t:=Zab r (r).size I (by intro k e;injection e;omega);go_wp2_with (refine Zj 3 x ?_);intro w3 hB j;have D:=D.grown j (by simp);have a:=Zab t t.size j (by intro k e;injection e;omega);go_wp2;refine bodyPost_ret (Zbl rfl rfl rfl (by kernel_rfl) (by kernel_rfl) D rfl (by kernel_rfl) (by kernel_rfl) hB rfl) rfl ?_;exact Fin.out _ ga (z).out _ a
end Go.Proofs.YtbcpbnfojfiekaaGreatDoor
