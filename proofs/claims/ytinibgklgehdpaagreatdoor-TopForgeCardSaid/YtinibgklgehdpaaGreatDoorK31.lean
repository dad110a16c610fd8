/- A part of what the last text stands on. -/
import Derived.Test.YtinibgklgehdpaaGreatDoorK30
namespace Go.Proofs.YtinibgklgehdpaaGreatDoor
open Go.ChangeShapes Go.WideShapes Go.ChangeAt Go.RowKit Qa Qb Qc
set_option linter.all false
set_option maxHeartbeats 20000000
set_option maxRecDepth 100000
variable{i j:Nat}{m:Msg}{f:Fl.Ft}{n:Fl.Nd}{ms:List Msg}{signs:List Sign}
namespace Fl
structure Sz (n m:Nd):Prop where
 nx:m.nx=n.nx
 txs:m.txs=n.txs
 out:n.out.length≤400→m.out.length≤400
theorem Sz.refl(n:Nd):Sz n n:=⟨rfl,rfl,id⟩
theorem Sz.trans{a b c:Nd}(h:Sz a b)(k:Sz b c):Sz a c:=⟨k.nx.trans h.nx,k.txs.trans h.txs,fun x=>k.out (h.out x)⟩
theorem Zin(n:Nd)(tw:Int)(m:Msg):Sz n (send n tw m):=by
 unfold send;split
 ·exact⟨rfl,rfl,fun _=>by simp;omega⟩
 ·exact Sz.refl n
theorem Zio{α:Type}(f:Nd→α→Nd)(hf:∀n a,Sz n (f n a)):∀(l:List α) (n:Nd),Sz n (l.foldl f n)
 |[],n=>Sz.refl n
 |a::l,n=>(hf n a).trans (Zio f hf l (f n a))
theorem Zpx(n:Nd)(m:Msg):Sz n (tell n m):=Zio _ (fun n a=>by unfold Zcm;split;exact Zin _ _ _;exact Sz.refl _) _ _
theorem Zgo(n:Nd)(b:Bat)(w:Bool):Sz n (store n b w).1:=by
 unfold Fl.store put kept;split
 ·exact Sz.refl n
 ·split
  ·split<;>exact⟨rfl,rfl,id⟩
  ·exact⟨rfl,rfl,id⟩
theorem Zhz(n:Nd)(c:Crt)(w:Bool):Sz n (insert n c w).1:=by
 unfold Fl.insert kept;split
 ·exact Sz.refl n
 ·split
  ·split<;>exact⟨rfl,rfl,id⟩
  ·exact⟨rfl,rfl,id⟩
theorem Zua(n:Nd)(h:Hdr):Sz n (vote n h).1:=by
 unfold Fl.vote kept;split
 ·exact Sz.refl n
 ·split
  ·split<;>exact⟨rfl,rfl,id⟩
  ·exact⟨rfl,rfl,id⟩
theorem Zwr(signs:List Sign)(rogue:Int)(n:Nd)(h:Hdr):Sz n (offer signs rogue n h):=by
 unfold Fl.offer;split
 ·exact Sz.refl n
 ·split
  ·exact Sz.refl n
  ·split
   ·exact Sz.refl n
   ·split
    ·exact(Zua n h).trans (Zin _ _ _)
    ·exact Zua n h
theorem Zws(signs:List Sign)(rogue:Int)(n:Nd)(src:Int)(s:Slot):Sz n (count signs rogue n src s):=by
 unfold Fl.count;split
 ·exact Sz.refl n
 ·split
  ·exact Sz.refl n
  ·split
   ·exact Sz.refl n
   ·have h0:Sz n {n with voters:=n.voters++[src] }:=⟨rfl,rfl,id⟩;split
    ·exact h0
    ·split
     ·exact(h0.trans (Zhz _ _ _)).trans (Zpx _ _)
     ·exact h0.trans (Zhz _ _ _)
theorem Zq9(tw:Int)(n:Nd)(d:List UInt8):Sz n (sendB tw n d):=by
 unfold sendB;split
 ·split
  ·exact Zin _ _ _
  ·exact Sz.refl n
 ·exact Sz.refl n
theorem Zwq(n:Nd)(tw round:Int):Sz n (serve n tw round):=by
 unfold Fl.serve;split
 ·exact Sz.refl n
 ·exact Zio _ (fun n c=>by unfold Zg7;exact(Zio _ (Zq9 tw) _ _).trans (Zin _ _ _)) _ _
theorem Zy4(signs:List Sign)(rogue:Int)(n:Nd)(m:Msg):Sz n (come1 signs rogue n m):=by
 unfold Fl.come1;split
 ·exact Zgo _ _ _
 ·split
  ·exact Zwr _ _ _ _
  ·split
   ·exact Zws _ _ _ _ _
   ·split
    ·split
     ·exact Zhz _ _ _
     ·exact Sz.refl n
    ·split
     ·exact Zwq _ _ _
     ·exact Sz.refl n
theorem Zmf(n:Nd)(round:Int):Sz n (propose n round):=by
 unfold Fl.propose;split
 ·exact Sz.refl n
 ·have h:=Zpx {kept n (offM (Zd1 n round))with table:=Zc4 n.table (Zd1 n round),own:=some (Zd1 n round),mine:=(Zcy n.table (Zd1 n round)).digest,voters:=[n.me] } (offM (Zd1 n round));exact⟨h.nx,h.txs,h.out⟩
theorem Zwt(n:Nd):Sz n (again n):=by
 unfold Fl.again;split
 ·exact Sz.refl n
 ·exact Zio _ (fun n tw=>by unfold Zeg;split;exact Sz.refl n;exact(Zio _ (Zq9 tw) _ _).trans (Zin _ _ _)) _ _
theorem Zwp(n:Nd)(round:Int):Sz n (work2 n round):=by
 unfold Fl.work2;split
 ·exact Zmf _ _
 ·split
  ·exact Zmf _ _
  ·split
   ·exact Zwt _
   ·exact Sz.refl n
theorem Zwo(n:Nd)(round:Int):Sz n (work3 n round):=by
 unfold Fl.work3;have h:=Zin {n with turn:=Zf5 n.me n.turn } (Zf5 n.me n.turn) (wntM (wanted n round));exact⟨h.nx,h.txs,h.out⟩
structure MN (n:Nd):Prop where
 out:n.out.length≤400
 pool:Zdp n.nx n.txs=0
theorem MN.sz{m:Nd}(h:MN n)(s:Sz n m):MN m:=⟨s.out h.out,by rw[s.nx,s.txs];exact h.pool⟩
theorem Zdu{nx:Int}{l:List ByteArray}:Zdp nx l=0↔(1≤nx∧nx≤1048577)∧l.length≤40∧∀i (hi:i<l.length),txOk l[i]=true∧Zcx (l.take i) l[i]=false:=by
 unfold Zdp
 have hb:∀i (hi:i<l.length),Zqz l i=false↔txOk l[i]=true∧Zcx (l.take i) l[i]=false:=fun i hi=>by
  unfold Zqz;rw[List.getElem?_eq_getElem hi];simp
 constructor
 ·intro h;split at h
  ·cases h
  ·rename_i h1;split at h
   ·cases h
   ·rename_i h2;simp only[Bool.or_eq_true,Bool.not_eq_true',decide_eq_true_eq,not_or,Bool.not_eq_false]at h1;refine⟨Zbi.1 h1.1,by omega,fun i hi=>(hb i hi).1 ?_⟩;simp only[List.any_eq_true,List.mem_range,not_exists,not_and,Bool.not_eq_true]at h2;exact h2 i hi
 ·rintro⟨h1,h2,h3⟩;rw[if_neg,if_neg]
  ·simp only[List.any_eq_true,List.mem_range,not_exists,not_and,Bool.not_eq_true];exact fun i hi=>(hb i hi).2 (h3 i hi)
  ·simp only[Bool.or_eq_true,Bool.not_eq_true',decide_eq_true_eq,not_or,Bool.not_eq_false];exact⟨Zbi.2 h1,by omega⟩
theorem Zqn{l m:List ByteArray}(h:∀x∈l,x∈m){s:ByteArray}(k:Zcx m s=false):Zcx l s=false:=by
 unfold Zcx at k⊢;rw[List.any_eq_false]at k⊢;exact fun x hx=>k x (h x hx)
theorem Zut{nx nx':Int}{l:List ByteArray}(h:Zdp nx l=0)(hn:1≤nx'∧nx'≤1048577)(k:Nat):Zdp nx' (l.drop k)=0:=by
 obtain⟨_,h2,h3⟩:=Zdu.1 h;refine Zdu.2 ⟨hn,by simp;omega,fun i hi=>?_⟩;rw[List.length_drop]at hi;rw[List.getElem_drop];obtain⟨q1,q2⟩:=h3 (k+i) (by omega);refine⟨q1,Zqn (fun x hx=>?_) q2⟩;rw[List.take_drop]at hx;exact List.mem_of_mem_drop hx
theorem Zw5{nx:Int}{l:List ByteArray}{s:ByteArray}(h:addF nx l s=0):Zdp nx (l++[s])=0:=by
 unfold addF at h;split at h
 ·contradiction
 ·rename_i h0;have h0:Zdp nx l=0:=by simpa using h0
  obtain⟨h1,h2,h3⟩:=Zdu.1 h0;split at h
  ·rename_i ht;split at h
   ·cases h
   ·rename_i hh;split at h
    ·cases h
    ·rename_i h40;refine Zdu.2 ⟨h1,by simp;omega,fun i hi=>?_⟩
     by_cases hlt:i<l.length
     ·rw[List.getElem_append_left hlt,List.take_append_of_le_length (by omega)];exact h3 i hlt
     ·have:i=l.length:=by simp at hi;omega
      subst this;rw[List.getElem_append_right (Nat.le_refl _),List.take_append_of_le_length (Nat.le_refl _),List.take_length];simp[ht];simpa using hh
  ·cases h
theorem Zsm{nx:Int}{l:List ByteArray}{au:Int}(h:Zjo nx l au=0):Zdp nx l=0∧inB au 0 3=true∧0<l.length∧nx≤1048576:=by
 unfold Zjo at h;split at h
 ·contradiction
 ·rename_i h0;split at h
  ·rename_i h1;split at h
   ·cases h
   ·split at h
    ·cases h
    ·exact⟨by simpa using h0,h1,by omega,by omega⟩
  ·cases h
theorem MN.work1{n:Nd}(h:MN n):MN (work1 n):=by
 unfold Fl.work1;split
 ·rename_i hs;have hz:=Zsm hs.1;have hs1:=(Zgo n (Zh1 n) true)
  have:MN {(store n (Zh1 n) true).1 with nx:=Zg8 n.nx n.txs n.me,txs:=Zdj n.nx n.txs n.me }:=by
   refine⟨hs1.out h.out,?_⟩;show Zdp (Zg8 n.nx n.txs n.me) (Zdj n.nx n.txs n.me)=0;unfold Zg8 Zdj;rw[hs.1];simp only[ne_eq,not_true_eq_false,if_false];obtain⟨h1,_⟩:=Zdu.1 h.pool;exact Zut h.pool (by omega) 4
  exact this.sz (Zpx _ _)
 ·split
  ·exact h.sz (Zgo _ _ _)
  ·exact h
theorem MN.work{n:Nd}(h:MN n):MN (work n):=by
 unfold Fl.work;exact(h.work1.sz (Zwp _ _)).sz (Zwo _ _)
theorem Zxh(k:Int):MN (fresh k):=⟨by simp[Fl.fresh],by show Zdp 1 []=0;decide⟩
theorem Zzh(h:1≤n.nx∧n.nx≤1048577)(hm:m.kind=1→m.bat.number≤1048576):(1≤(recS n m).nx∧(recS n m).nx≤1048577)∧(recS n m).txs=n.txs∧(recS n m).out=n.out:=by
 have hs:=Zgo n m.bat false;have hs2:=Zgp n m.bat;have hi:=Zhz n m.crt false;have hi2:=Zf2 n m.crt;unfold recS;split
 ·rename_i h1;split
  ·refine⟨?_,hs.txs,hs2.2.2.1⟩;show 1≤max _ _∧max _ _≤(1048577:Int);rw[hs.nx];have:=hm h1;omega
  ·exact⟨by rw[hs.nx];exact h,hs.txs,hs2.2.2.1⟩
 ·split
  ·exact⟨h,rfl,rfl⟩
  ·split
   ·exact⟨h,rfl,rfl⟩
   ·split
    ·exact⟨by rw[hi.nx];exact h,hi.txs,hi2.2.2.1⟩
    ·exact⟨h,rfl,rfl⟩
theorem Zp8:∀(ms:List Msg) {n:Nd},(1≤n.nx∧n.nx≤1048577)→(∀m∈ms,m.kind=1→m.bat.number≤1048576)→(1≤(ms.foldl recS n).nx∧(ms.foldl recS n).nx≤1048577)∧(ms.foldl recS n).txs=n.txs∧(ms.foldl recS n).out=n.out
 |[],n,h,_=>⟨h,rfl,rfl⟩
 |m::ms,n,h,hm=>by
  obtain⟨q1,q2,q3⟩:=Zzh h (hm m (by simp))
  obtain⟨r1,r2,r3⟩:=Zp8 ms q1 (fun x hx=>hm x (by simp[hx]))
  exact⟨r1,r2.trans q2,r3.trans q3⟩
theorem Zmp(h:recF m=0):m.kind=1→m.bat.number≤1048576:=fun hk=>by
 have h1:=(msgF_zero (Zfk h).1).2.2.2.1
 unfold Zd7 at h1
 rw[if_pos hk]at h1
 exact(batchF_zero h1).2.1.2
theorem Zrw{rogue k:Int}(h:NI signs rogue k n ms j){keep:Int}(hk:0≤keep) :
 ∃i,i≤ms.length∧rcvM (crL n.tl n.ty keep) (crA n.tl n.ty keep)=ms.take i∧crash n k keep=(ms.take i).foldl recS {fresh k with up:=false,tl:=Zaz (ms.take i),ty:=((Zaz (ms.take i)).length:Nat) }:=by
 have hm:=h.tap.may
 obtain⟨N,hN,hN1,hN2⟩:∃N:Nat,Zds n.ty keep n.tl.length=N∧N≤(Zaz ms).length∧(Zaz (ms.take j)).length≤N:=by
  have:=Ze7 ms j;refine⟨_,rfl,?_,?_⟩
  ·unfold Zds;rw[h.tap.ty,h.tap.tl];split<;>omega
  ·unfold Zds;rw[h.tap.ty,h.tap.tl];split<;>omega
 obtain⟨i,i1,i2,i3,i4⟩:=Zus h.tap.good hN1;have el:crL n.tl n.ty keep=(Zaz ms).take N:=by unfold crL;rw[if_pos ⟨hm,hk⟩,hN,h.tap.tl]
 have ea:crA n.tl n.ty keep=N:=by unfold crA;rw[if_pos ⟨hm,hk⟩,hN]
 have hlen:((Zaz ms).take N).length=N:=by simp;omega
 have hshort:=h.tap.short;rw[h.tap.tl]at hshort;have hm2:Zba ((Zaz ms).take N) N=true:=by unfold Zba;rw[hlen];simp;omega
 have e1:rcvM ((Zaz ms).take N) N=ms.take i:=by unfold rcvM;rw[hm2,i2];rfl
 have e2:rcvD ((Zaz ms).take N) N=Zaz (ms.take i):=by
  unfold rcvD;rw[hm2,i2];simp only[if_true];rw[List.take_take,Nat.min_eq_left i3];have:Zaz ms=Zaz (ms.take i)++Zaz (ms.drop i):=by rw[←Zdd,List.take_append_drop]
  rw[this,List.take_left]
 have e3:rcvY ((Zaz ms).take N) N=(Zaz (ms.take i)).length:=by
  unfold rcvY;rw[hm2,i2];simp only[if_true]
  split<;>omega
 refine⟨i,i1,by rw[el,ea,e1],?_⟩;unfold Fl.crash;simp only;rw[el,ea,e1,e2,e3]
theorem MN.crash{signs:List Sign}{rogue k:Int}{n:Nd}{ms:List Msg}{j:Nat}(h:NI signs rogue k n ms j){keep:Int}(hk:0≤keep):MN (crash n k keep):=by
 obtain⟨i,hi,_,e⟩:=Zrw h hk;rw[e];obtain⟨q1,q2,q3⟩:=Zp8 (ms.take i) (n:={ fresh k with up:=false,tl:=Zaz (ms.take i),ty:=((Zaz (ms.take i)).length:Nat) }) (by simp[Fl.fresh]) (fun m hm=>Zmp (h.tap.good m (List.mem_of_mem_take hm)));constructor
 ·rw[q3];simp[Fl.fresh]
 ·rw[q2];exact Zdu.2 ⟨q1,by simp[Fl.fresh],fun i hi=>by simp[Fl.fresh]at hi⟩
structure MI (f:Ft):Prop where
 wi:WI f
 mn:∀i:Int,0≤i→i≤3→MN (Zan f i)
 away:f.away.length≤400
theorem MI.set(h:MI f){i:Int}(hi:0≤i∧i≤3)(hw:WI (Za1 f i n))(hn:MN n):MI (Za1 f i n):=by
 refine⟨hw,fun k h0 h3=>?_,h.away⟩;rw[Zdv h.wi.len hi ⟨h0,h3⟩];split
 ·exact hn
 ·exact h.mn k h0 h3
theorem MI.come{f:Ft}(h:MI f){tw:Int}(ht:0≤tw∧tw≤3){m:Msg}(hm:0≤m.src∧m.src≤3):MI (come f tw m):=by
 have hw:=h.wi.come ht hm;unfold Fl.come at hw⊢;split
 ·exact h
 ·rename_i hc;rw[if_neg hc]at hw;exact h.set ht hw ((h.mn tw ht.1 ht.2).sz (Zy4 _ _ _ _))
theorem MI.flow:∀(l:List Msg) {f:Ft},(∀m∈l,Zhe m)→MI f→MI (l.foldl (fun g m=>Fl.come g m.dst m) f)
 |[],f,_,h=>h
 |m::l,f,hl,h=>MI.flow l (fun x hx=>hl x (by simp[hx])) (h.come (hl m (by simp)).2 (hl m (by simp)).1)
theorem Zoo(me:Int):∀(out:List Msg) (p:List Sign×List Msg),p.2.length≤400→(out.foldl (Zc6 me) p).2.length≤400
 |[],p,h=>h
 |m::out,p,h=>by
  rw[List.foldl_cons]
  refine Zoo me out _ ?_
  unfold Zc6
  simp only
  split
  ·simp;omega
  ·exact h
theorem MN.up{n:Nd}(h:MN n)(b:Bool):MN {n with up:=b }:=⟨h.out,h.pool⟩
theorem MI.act{f:Ft}(h:MI f){a:At}(ha:AOk a)(hr:a.node≠f.rogue):MI (act f a):=by
 have hw:=h.wi.act ha hr;have hn:=h.mn a.node ha.1.1 ha.1.2;unfold Fl.act at hw⊢;simp only at hw⊢;split
 ·rename_i c;rw[if_pos c]at hw;exact h.set ha.1 hw (hn.up true)
 ·rename_i c;rw[if_neg c]at hw;split
  ·exact h
  ·rename_i c;rw[if_neg c]at hw;split
   ·rename_i c;rw[if_pos c]at hw;exact h.set ha.1 hw hn.work
   ·rename_i c;rw[if_neg c]at hw;split
    ·rename_i c;rw[if_pos c]at hw;refine⟨hw,fun k h0 h3=>?_,?_⟩
     ·have e:Zan (sync f a.node) k=Zan (Za1 f a.node (syncN (Zan f a.node))) k:=rfl;rw[e,Zdv h.wi.len ha.1 ⟨h0,h3⟩];split
      ·exact⟨by simp[syncN],hn.pool⟩
      ·exact h.mn k h0 h3
     ·exact Zoo _ _ _ h.away
    ·rename_i c;rw[if_neg c]at hw;split
     ·rename_i c;rw[if_pos c]at hw;obtain⟨ms,j,p,_⟩:=h.wi.node a.node ha.1.1 ha.1.2;exact h.set ha.1 hw (MN.crash p ha.2)
     ·exact h
theorem MI.awayed(h:MI f){l:List Msg}(hl:∀m∈l,Zhe m)(h4:l.length≤400):MI {f with away:=l }:=⟨h.wi.awayed hl,h.mn,h4⟩
theorem MI.coded(h:MI f)(l:List Int):MI {f with codes:=l }:=⟨h.wi.coded l,h.mn,h.away⟩
theorem MI.submit{f:Ft}(h:MI f){a:At}(ha:AOk a):MI (submit f a):=by
 have hw:=h.wi.submit ha;unfold Fl.submit at hw⊢;simp only at hw⊢;split
 ·rename_i c;rw[if_pos c]at hw;refine h.set ha.1 hw ⟨(h.mn a.node ha.1.1 ha.1.2).out,?_⟩;unfold Zkc at c;simp only at c;split at c
  ·cases c
  ·exact Zw5 c
 ·exact h
theorem Zpe{l:List Msg}:(l.eraseIdx i).length≤l.length:=by rw[List.length_eraseIdx];split<;>omega
theorem MI.doA{f:Ft}(h:MI f){a:At}(ha:AOk a):MI (doA f a):=by
 have hw:=h.wi.doA ha;unfold Fl.doA at hw⊢;split
 ·exact(h.submit ha).coded _
 ·rename_i c;rw[if_neg c]at hw;split
  ·rename_i c;rw[if_pos c]at hw;split
   ·exact h
   ·rename_i m hm;have hmem:=List.mem_of_getElem? hm;have he:∀x∈f.away.eraseIdx (pick f a.pick),Zhe x:=fun x hx=>h.wi.away x (List.mem_of_mem_eraseIdx hx)
    have h':=h.awayed he (Nat.le_trans Zpe h.away);split
    ·exact h'.come (h.wi.away m hmem).2 (h.wi.away m hmem).1
    ·exact h'
  ·rename_i c;rw[if_neg c]at hw;split
   ·split
    ·exact h
    ·rename_i m hm;have hmem:=List.mem_of_getElem? hm;split
     ·exact h.awayed (fun x hx=>by
       rcases List.mem_append.1 hx with hx|hx
       ·exact h.wi.away x hx
       ·simp at hx;subst hx;exact h.wi.away _ hmem) (by simp;omega)
     ·exact h
   ·rename_i c;rw[if_neg c]at hw;split
    ·exact MI.flow _ h.wi.away (h.awayed (fun m hm=>by cases hm) (by simp))
    ·split
     ·split
      ·rename_i c2;have:=(msgF_zero (Zru c2.1)).1;exact h.come ha.1 this
      ·exact h
     ·split
      ·rename_i hr;exact h.act ha hr
      ·exact h
theorem MI.start{rogue:Int}(hr:inB rogue (-1) 3=true):MI (start rogue):=by
 refine⟨WI.start hr,fun i h0 h3=>?_,by simp[Fl.start]⟩;have:i=0∨i=1∨i=2∨i=3:=by omega
 rcases this with e|e|e|e<;>rw[e]<;>exact Zxh _
theorem MI.fold:∀(l:List At) {f:Ft},(∀a∈l,AOk a)→MI f→MI (l.foldl Fl.doA f)
 |[],f,_,h=>h
 |a::l,f,hl,h=>MI.fold l (fun x hx=>hl x (by simp[hx])) (h.doA (hl a (by simp)))
theorem Znd(f:Ft)(a:At):(doA f a).codes.length≤f.codes.length+1:=by
 unfold Fl.doA;split
 ·simp
 ·split
  ·split
   ·omega
   ·split
    ·rw[(Zdx _ _ _).2.2.2];simp
    ·simp
  ·split
   ·split
    ·omega
    ·split<;>simp
   ·split
    ·rw[(Zgu _ _).2.2.2];simp
    ·split
     ·split
      ·rw[(Zdx _ _ _).2.2.2];simp
      ·omega
     ·split
      ·rw[show(act f a).codes=f.codes from by
        unfold Fl.act;simp only
        repeat(first|split|rfl)]
       omega
      ·omega
theorem Zmx:∀(l:List At) (f:Ft),(l.foldl Fl.doA f).codes.length≤f.codes.length+l.length
 |[],f=>by simp
 |a::l,f=>by
  have h1:=Znd f a
  have h2:=Zmx l (Fl.doA f a)
  simp only[List.foldl_cons,List.length_cons]
  omega
structure Same (p q:Vw):Prop where
 round:p.round=q.round
 certs:p.certs=q.certs
 bats:p.bats=q.bats
 votes:p.votes=q.votes
def vwAt(f:Ft)(i:Int):Vw:=if i=f.rogue then vw0 else view (Zan f i)
theorem Zuj{m:Nd}(h:core n=core m):Same (view n) (view m):=by
 have e1:n.bats=m.bats:=congrArg Co.bats h;have e2:n.table=m.table:=congrArg Co.table h;have e3:n.dag=m.dag:=congrArg Co.dag h;exact⟨by simp[view,e3],e3,e1,e2⟩
def Acts(l:List At):Prop:=∀a∈l,actE a=0
theorem Acts.ok{l:List At}(h:Acts l):∀a∈l,AOk a:=fun a ha=>Zr2 (h a ha)
theorem Acts.append{l m:List At}(h:Acts l)(k:Acts m):Acts (l++m):=fun a ha=>(List.mem_append.1 ha).elim (h a) (k a)
theorem Acts.nil:Acts []:=fun a ha=>by cases ha
theorem Acts.cons{a:At}{l:List At}(h:actE a=0)(k:Acts l):Acts (a::l):=fun b hb=>by
 rcases List.mem_cons.1 hb with rfl|hb
 ·exact h
 ·exact k b hb
theorem Zy7{rogue:Int}(hr:inB rogue (-1) 3=true){l:List At}(h:Acts l)(hl:l.length≤3000):runE rogue l=0:=by
 unfold runE;rw[if_neg (by simp[hr]),if_neg (by omega)];split
 ·rename_i a ha;have:=List.find?_some ha;rw[h a (List.mem_of_find?_eq_some ha)]at this;simp at this
 ·rfl
theorem Zyo{rogue:Int}(hr:inB rogue (-1) 3=true){l:List At}(h:Acts l):WI (run rogue l):=WI.fold l h.ok (WI.start hr)
theorem Zul(rogue:Int)(l m:List At):run rogue (l++m)=m.foldl doA (run rogue l):=by unfold run;rw[List.foldl_append]
theorem Zte:(ByteArray.empty.toList==[])=true:=by
 have:ByteArray.empty.toList=[]:=by
  unfold ByteArray.toList ByteArray.toList.loop;rfl
 rw[this];rfl
theorem Zd8{k n p:Int}(h1:inB k 1 10=true)(h2:hT k=false)(h3:(hN k&& !inB n 0 3||hP k&& !inB p 0 400000)=false)(h4:(!hN k&&n != 0|| !hP k&&p != 0)=false):actE ⟨k,n,p,ByteArray.empty⟩=0:=by
 unfold actE actF;simp only;rw[h1,h2,h3,h4,Zte];rfl
theorem Zro{i:Int}(hi:0≤i∧i≤3):inB i 0 3=true:=Zbi.2 hi
theorem Zh0{i:Int}(hi:0≤i∧i≤3):actE (Zbk i)=0:=Zd8 rfl rfl (by rw[Zro hi];rfl) rfl
theorem Zpz{i:Int}(hi:0≤i∧i≤3):actE (Zc1 i)=0:=Zd8 rfl rfl (by rw[Zro hi];rfl) rfl
theorem Zy1{i:Int}(hi:0≤i∧i≤3):actE (workA i)=0:=Zd8 rfl rfl (by rw[Zro hi];rfl) rfl
theorem Zzn:actE flowA=0:=Zd8 rfl rfl rfl rfl
theorem Zrx{i p:Int}(hi:0≤i∧i≤3)(hp:0≤p∧p≤400000):actE (Zb4 i p)=0:=by
 have h1:inB p 0 400000=true:=Zbi.2 hp;exact Zd8 rfl rfl (by rw[Zro hi,h1];rfl) rfl
theorem Zy3{p:Int}(hp:0≤p∧p≤400000):actE (takeA p)=0:=by
 have h1:inB p 0 400000=true:=Zbi.2 hp;exact Zd8 rfl rfl (by rw[h1];rfl) rfl
theorem Zzj{p:Int}(hp:0≤p∧p≤400000):actE ⟨5,0,p,ByteArray.empty⟩=0:=by
 have h1:inB p 0 400000=true:=Zbi.2 hp;exact Zd8 rfl rfl (by rw[h1];rfl) rfl
theorem Zzr{p:Int}(hp:0≤p∧p≤400000):actE (copyA p)=0:=by
 have h1:inB p 0 400000=true:=Zbi.2 hp;exact Zd8 rfl rfl (by rw[h1];rfl) rfl
theorem Zud{i:Int}(hi:0≤i∧i≤3){t:ByteArray}(ht:t.size≤4000):actE ⟨1,i,0,t⟩=0:=by
 have h2:inB i 0 3=true:=Zbi.2 hi;have e1:inB 1 1 10=true:=rfl;have e2:hN 1=true:=rfl;have e3:hP 1=false:=rfl;have e4:hT 1=true:=rfl;have h5:decide (4000<t.size)=false:=by simp;omega
 unfold actE actF;simp only;rw[h2,e1,e2,e3,e4,h5];rfl
theorem Zq4{i:Int}(h:i=f.rogue):vwAt f i=vw0:=if_pos h
theorem Zt1{i:Int}(h:i≠f.rogue):vwAt f i=view (Zan f i):=if_neg h
theorem Zxl{rogue:Int}(hr:inB rogue (-1) 3=true){l:List At}(h:Acts l){i:Int}(hi:0≤i∧i≤3) :
 if i=rogue then(vwAt (run rogue (l++[Zbk i,Zc1 i])) i).up=false∧(vwAt (run rogue ((l++[Zbk i,Zc1 i])++[Zb4 i 0,Zbk i])) i).up=false
 else(vwAt (run rogue (l++[Zbk i,Zc1 i])) i).up=true∧(vwAt (run rogue ((l++[Zbk i,Zc1 i])++[Zb4 i 0,Zbk i])) i).up=true∧Same (vwAt (run rogue (l++[Zbk i,Zc1 i])) i) (vwAt (run rogue ((l++[Zbk i,Zc1 i])++[Zb4 i 0,Zbk i])) i)∧(vwAt (run rogue ((l++[Zbk i,Zc1 i])++[Zb4 i 0,Zbk i])) i).pool=[]:=by
 have hs:Acts [Zbk i,Zc1 i]:=Acts.cons (Zh0 hi) (Acts.cons (Zpz hi) Acts.nil);have hx:=Zyo hr (h.append hs);split
 ·rename_i e;rw[Zq4 (by rw[Zgb];exact e),Zq4 (by rw[Zgb];exact e)];exact⟨rfl,rfl⟩
 ·rename_i e;have hw:=Zyo hr h;have e0:i≠(run rogue l).rogue:=by rw[Zgb];exact e
  have hw1:=hw.doA (Zr2 (Zh0 hi));have hup1:(Zan (doA (run rogue l) (Zbk i)) i).up=true:=by rw[Zmr hw hi e0,Zev hw.len hi]
  obtain⟨ms,hN,hup⟩:=Zww hw1 hi (by rw[Zgi];exact e0) hup1;have ex:run rogue (l++[Zbk i,Zc1 i])=doA (doA (run rogue l) (Zbk i)) (Zc1 i):=by rw[Zul];rfl
  have e2:i≠(run rogue (l++[Zbk i,Zc1 i])).rogue:=by rw[Zgb];exact e
  have ey:run rogue ((l++[Zbk i,Zc1 i])++[Zb4 i 0,Zbk i])=doA (doA (run rogue (l++[Zbk i,Zc1 i])) (Zb4 i 0)) (Zbk i):=by rw[Zul];rfl
  rw[←ex]at hN hup;obtain⟨q1,q2,q3,q4⟩:=Zts hx hi (Int.le_refl 0) e2 hN hup;rw[Zt1 e2,ey,Zt1 (by rw[Zgi,Zgi];exact e2)];exact⟨hup,q2,(Zuj q1.symm),q3⟩
def Zvl(i:Int)(t:ByteArray):At:=⟨9,i,0,t⟩
theorem Zxs{i:Int}(hi:0≤i∧i≤3){t:ByteArray}(ht:t.size≤4000):actE (Zvl i t)=0:=by
 have h2:inB i 0 3=true:=Zbi.2 hi;have e1:inB 9 1 10=true:=rfl;have e2:hN 9=true:=rfl;have e3:hP 9=false:=rfl;have e4:hT 9=true:=rfl;have h5:decide (4000<t.size)=false:=by simp;omega
 unfold actE actF Zvl;simp only;rw[h2,e1,e2,e3,e4,h5];rfl
structure NFit (n:Nd):Prop where
 out:n.out.length≤400
 table:n.table.length≤400
 dd:n.digs.length=n.bats.length
 bats:n.bats.length≤800
 voters:n.voters.length≤4
 dag:dagF hD cF n.dag=0
structure KeepD (n m:Nd):Prop where
 digs:m.digs=n.digs
 bats:m.bats=n.bats
 out:n.out.length≤400→m.out.length≤400
theorem KeepD.refl(n:Nd):KeepD n n:=⟨rfl,rfl,id⟩
theorem KeepD.trans{a b c:Nd}(h:KeepD a b)(k:KeepD b c):KeepD a c:=⟨k.digs.trans h.digs,k.bats.trans h.bats,fun x=>k.out (h.out x)⟩
theorem Zqi(n:Nd)(tw:Int)(m:Msg):KeepD n (send n tw m):=by
 unfold send;split
 ·exact⟨rfl,rfl,fun _=>by simp;omega⟩
 ·exact KeepD.refl n
theorem Zns{α:Type}(f:Nd→α→Nd)(hf:∀n a,KeepD n (f n a)):∀(l:List α) (n:Nd),KeepD n (l.foldl f n)
 |[],n=>KeepD.refl n
 |a::l,n=>(hf n a).trans (Zns f hf l (f n a))
theorem Zve(n:Nd)(m:Msg):KeepD n (tell n m):=Zns _ (fun n a=>by unfold Zcm;split;exact Zqi _ _ _;exact KeepD.refl _) _ _
theorem Zxn(tw:Int)(n:Nd)(d:List UInt8):KeepD n (sendB tw n d):=by
 unfold sendB;split
 ·split
  ·exact Zqi _ _ _
  ·exact KeepD.refl n
 ·exact KeepD.refl n
theorem Zms(n:Nd)(round:Int):KeepD n (propose n round):=by
 unfold Fl.propose;split
 ·exact KeepD.refl n
 ·have h:=Zve {kept n (offM (Zd1 n round))with table:=Zc4 n.table (Zd1 n round),own:=some (Zd1 n round),mine:=(Zcy n.table (Zd1 n round)).digest,voters:=[n.me] } (offM (Zd1 n round));exact⟨h.digs,h.bats,h.out⟩
theorem Zxo(n:Nd):KeepD n (again n):=by
 unfold Fl.again;split
 ·exact KeepD.refl n
 ·exact Zns _ (fun n tw=>by unfold Zeg;split;exact KeepD.refl n;exact(Zns _ (Zxn tw) _ _).trans (Zqi _ _ _)) _ _
theorem Zxm(n:Nd)(round:Int):KeepD n (work2 n round):=by
 unfold Fl.work2;split
 ·exact Zms _ _
 ·split
  ·exact Zms _ _
  ·split
   ·exact Zxo _
   ·exact KeepD.refl n
theorem Zka(n:Nd)(m:Msg):(tell n m).table=n.table∧(tell n m).dag=n.dag∧(tell n m).own=n.own∧(tell n m).voters=n.voters∧(tell n m).me=n.me:=by
 have:∀(l:List Int) (n:Nd),(l.foldl (Zcm m) n).voters=n.voters:=by
  intro l
  induction l with
  |nil=>intro n;rfl
  |cons a l ih =>
   intro n;rw[List.foldl_cons,ih];unfold Zcm send
   split<;>(try split)<;>rfl
 obtain⟨_,h2,h3,h4,h5⟩:=Zim m all4 n;exact⟨h4,h2,h3,this _ _,h5⟩
theorem NFit.store{n:Nd}(h:NFit n)(b:Bat)(w:Bool):NFit (store n b w).1:=by
 unfold Fl.store put kept;split
 ·exact h
 ·rename_i hc;have hb:n.bats.length+1≤800:=by have:=h.bats;omega
  split
  ·split
   ·exact⟨h.out,h.table,by simp[h.dd],by simp;omega,h.voters,h.dag⟩
   ·exact h
  ·exact⟨h.out,h.table,by simp[h.dd],by simp;omega,h.voters,h.dag⟩
theorem NFit.tell{n:Nd}(h:NFit n)(m:Msg):NFit (tell n m):=by
 have k:=Zve n m;obtain⟨h1,h2,_,h4,_⟩:=Zka n m;exact⟨k.out h.out,by rw[h1];exact h.table,by rw[k.digs,k.bats];exact h.dd,by rw[k.bats];exact h.bats,by rw[h4];exact h.voters,by rw[h2];exact h.dag⟩
theorem NFit.work1{n:Nd}(h:NFit n):NFit (work1 n):=by
 unfold Fl.work1;have hs:=h.store (Zh1 n) true;split
 ·refine NFit.tell ?_ _;exact⟨hs.out,hs.table,hs.dd,hs.bats,hs.voters,hs.dag⟩
 ·split
  ·exact hs
  ·exact h
theorem Zsq(l:List Crt):0≤rndV l∧rndV l≤402:=by
 unfold rndV;split
 ·rename_i h;have h4:=(dagF_zero.1 h).1
  have:∀(n:Nat) (r:Int),r≤Zdy l n r∧Zdy l n r≤r+n:=by
   intro n
   induction n with
   |zero=>intro r;exact⟨Int.le_refl _,by simp[Zdy]⟩
   |succ n ih =>
    intro r;rw[Zdy];split
    ·have:=ih (r+1);omega
    ·omega
  have:=this (l.length+1) 1;unfold Zs1;omega
 ·omega
theorem Znx:∀(n:Nat) {l:List Int},l.Nodup→(∀v∈l,0≤v∧v<n)→l.length≤n
 |0,l,_,h=>by
  cases l with
  |nil=>simp
  |cons a l=>have:=h a (by simp);omega
 |n+1,l,hn,h=>by
  by_cases hm:(n:Int)∈l
  ·have h1:=Znx n (l:=l.erase (n:Int)) (hn.erase _) (fun v hv=>by
    have h2:=h v (List.mem_of_mem_erase hv)
    have h3:v≠n:=fun e=>by rw[e]at hv;exact(hn.not_mem_erase) hv
    omega)
   rw[List.length_erase_of_mem hm]at h1
   omega
  ·have h1:=Znx n hn (fun v hv=>by
    have h2:=h v hv
    have h3:v≠n:=fun e=>hm (e▸hv)
    omega)
   omega
theorem NFit.of{rogue k:Int}(h:NI signs rogue k n ms j)(m:MN n):NFit n:=by
 have hc:=h.co;refine⟨m.out,?_,?_,?_,?_,?_⟩
 ·rw[h.table];exact(Zc5.1 hc.table).1
 ·rw[h.digs,h.bats,hc.digs];simp
 ·rw[h.bats];exact hc.few
 ·exact Znx 4 h.once.1 (fun v hv=>by have:=h.once.2 v hv;omega)
 ·rw[h.dag];exact hc.dag
end Fl
end Go.Proofs.YtinibgklgehdpaaGreatDoor
