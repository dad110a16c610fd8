/- A part of what the last text stands on. -/
import Derived.Test.YtinibgklgehdpaaGreatDoorK29
namespace Go.Proofs.YtinibgklgehdpaaGreatDoor
open Go.ChangeShapes Go.WideShapes Go.ChangeAt Go.RowKit Qa Qb Qc
set_option linter.all false
set_option maxHeartbeats 20000000
set_option maxRecDepth 100000
variable{m:Msg}{f:Fl.Ft}{n:Fl.Nd}{ms:List Msg}{signs:List Sign}
namespace Fl
section
variable {signs:List Sign} {rogue k:Int} {n:Nd} {ms:List Msg} {j:Nat}
theorem Zeo(n:Nd)(tw:Int)(m:Msg):(send n tw m).table=n.table∧(send n tw m).own=n.own∧(send n tw m).voters=n.voters∧(send n tw m).dag=n.dag∧(send n tw m).up=n.up∧(send n tw m).turn=n.turn∧(send n tw m).me=n.me:=by
 unfold Fl.send;split<;>exact⟨rfl,rfl,rfl,rfl,rfl,rfl,rfl⟩
theorem Zim(m:Msg):∀(l:List Int) (n:Nd),(l.foldl (Zcm m) n).up=n.up∧(l.foldl (Zcm m) n).dag=n.dag∧(l.foldl (Zcm m) n).own=n.own∧(l.foldl (Zcm m) n).table=n.table∧(l.foldl (Zcm m) n).me=n.me
 |[],n=>⟨rfl,rfl,rfl,rfl,rfl⟩
 |i::l,n=>by
  rw[List.foldl_cons]
  obtain⟨h1,h2,h3,h4,h5⟩:=Zim m l (Zcm m n i)
  have:(Zcm m n i).up=n.up∧(Zcm m n i).dag=n.dag∧(Zcm m n i).own=n.own∧(Zcm m n i).table=n.table∧(Zcm m n i).me=n.me:=by
   unfold Zcm;split
   ·obtain⟨q1,q2,q3,q4,q5,q6,q7⟩:=Zeo n i m
    exact⟨q5,q4,q2,q1,q7⟩
   ·exact⟨rfl,rfl,rfl,rfl,rfl⟩
  obtain⟨p1,p2,p3,p4,p5⟩:=this
  exact⟨h1.trans p1,h2.trans p2,h3.trans p3,h4.trans p4,h5.trans p5⟩
theorem Zrb(n:Nd)(b:Bat)(w:Bool):(store n b w).1.up=n.up:=by
 unfold Fl.store kept put;split<;>(try split)<;>(try split)<;>rfl
theorem NI.other(h:NI signs rogue k n ms j){n':Nd}(e1:n'.tl=n.tl)(e2:n'.ty=n.ty)(e3:Fl.core n'=Fl.core n)(e4:n'.me=n.me)(e5:n'.own=n.own)(e6:n'.mine=n.mine)(e8:n'.voters=n.voters)(e9:n'.out=n.out)(e10:0≤n'.turn∧n'.turn≤3)(e7:n'.up=false→n.up=false):NI signs rogue k n' ms j:=by
 have et:n'.table=n.table:=congrArg Co.table e3;exact⟨⟨h.tap.good,by rw[e1];exact h.tap.tl,by rw[e1];exact h.tap.short,h.tap.jl,by rw[e2];exact h.tap.ty⟩,h.recs,by rw[e3];exact h.core,by rw[e4];exact h.me,h.kr,by rw[e5,e6,et];exact h.own,by rw[e8,e5];exact h.voters,by rw[e8];exact h.once,by rw[e9,et];exact h.out,e10,fun q=>h.down (e7 q),by rw[et,e5];exact h.last⟩
theorem NI.work1(h:NI signs rogue k n ms j)(hup:n.up=true):∃ms',ms <+: ms'∧NI signs rogue k (work1 n) ms' j:=by
 obtain⟨ms',p1,p2⟩:=h.store hup (Zh1 n);unfold Fl.work1;split
 ·refine⟨ms',p1,?_⟩;generalize (Fl.store n (Zh1 n) true).1=q at p2⊢;have p3:NI signs rogue k {q with nx:=Zg8 n.nx n.txs n.me,txs:=Zdj n.nx n.txs n.me } ms' j:=p2.other (n:=q) rfl rfl rfl rfl rfl rfl rfl rfl p2.turn (fun q=>q);have p4:Zr3 k {q with nx:=Zg8 n.nx n.txs n.me,txs:=Zdj n.nx n.txs n.me } (batM (Zh1 n)):=⟨kno rfl,kno rfl⟩;exact p3.tell p4
 ·split
  ·exact⟨ms',p1,p2⟩
  ·exact⟨ms,List.prefix_refl _,h⟩
theorem NI.propose(h:NI signs rogue k n ms j)(hup:n.up=true)(round:Int)(hround:∀s∈n.table,s.author=k→s.round<round):∃ms',ms <+: ms'∧NI signs rogue k (propose n round) ms' j:=by
 unfold Fl.propose;split
 ·exact⟨ms,List.prefix_refl _,h⟩
 ·rename_i hn;simp only[not_or,ne_eq,Decidable.not_not]at hn;obtain⟨hc,he⟩:=hn;obtain⟨q1,q2,q3,q4⟩:=Zeq hc;obtain⟨r1,r2,r3,r4⟩:=Zg0 hc;have ha:(Zd1 n round).author=k:=h.me;obtain⟨t1,t2⟩:=Zi0 h.tap he;refine⟨ms++[offM (Zd1 n round)],List.prefix_append _ _,NI.tell ?_ ⟨fun _=>⟨ha,q2,r2⟩,kno rfl⟩⟩;refine⟨⟨t2.good,t2.tl,t2.short,t2.jl,t2.ty⟩,h.recs.snoc ⟨fun _=>⟨ha,by rw[←h.table];exact hc⟩,kno rfl,kno rfl,kno rfl,fun _=>by rw[←h.table];exact hround,kno rfl⟩,?_,h.me,h.kr,?_,?_,?_,?_,h.turn,?_,?_⟩
  ·rw[Zlg,←h.core];unfold Ze1;rw[if_neg (kno rfl:¬(offM (Zd1 n round)).kind=1),if_pos (show(offM (Zd1 n round)).kind=2 from rfl)];rw[if_pos (show Ze2 (Fl.core n).table (offM (Zd1 n round)).hdr=0 from hc)];rfl
  ·intro x hx;injection hx with hx;subst hx;refine⟨ha,q2,?_,r2⟩;show(Zcy n.table (Zd1 n round)).digest=_;rw[q3];rfl
  ·intro v hv;rw[List.mem_singleton.1 hv];exact .inl h.me
  ·refine⟨List.pairwise_singleton _ _,fun v hv=>?_⟩;rw[List.mem_singleton.1 hv,h.me];exact h.kr
  ·exact fun x hx=>(h.out x hx).mono r3
  ·intro hd;exact absurd (show n.up=false from hd) (by rw[hup];decide)
  ·intro s hs hsa;refine⟨_,rfl,?_⟩;show s.round≤round;have hs:s∈Zc4 n.table (Zd1 n round):=hs
   rcases q4 with ⟨e,_⟩|⟨e,_⟩
   ·rw[e]at hs;have:=hround s hs hsa;omega
   ·rw[e]at hs
    rcases List.mem_append.1 hs with hs|hs
    ·have:=hround s hs hsa;omega
    ·rw[List.mem_singleton.1 hs];exact Int.le_refl _
theorem NI.again(h:NI signs rogue k n ms j):NI signs rogue k (again n) ms j:=by
 unfold Fl.again;split
 ·exact h
 ·rename_i x ho
  have:∀(l:List Int) {n:Nd},(∀i∈l,0≤i∧i≤3)→n.own=some x→NI signs rogue k n ms j→NI signs rogue k (l.foldl (Zeg x) n) ms j:=by
   intro l
   induction l with
   |nil=>exact fun _ _ h=>h
   |cons i l ih =>
    intro n hl ho h;rw[List.foldl_cons];have hi:=hl i (by simp);unfold Zeg;split
    ·exact ih (fun y hy=>hl y (by simp[hy])) ho h
    ·have h1:=NI.sendBs hi x.batches h
     have ho1:∀(ds:List (List UInt8)) (n:Nd),(ds.foldl (Fl.sendB i) n).own=n.own∧(ds.foldl (Fl.sendB i) n).table=n.table:=by
      intro ds
      induction ds with
      |nil=>intro n;exact⟨rfl,rfl⟩
      |cons d ds ih2 =>
       intro n;rw[List.foldl_cons,(ih2 _).1,(ih2 _).2];exact⟨(Zkn i n d).2.1,(Zkn i n d).1⟩
     obtain⟨e1,e2⟩:=ho1 x.batches n;obtain⟨o1,o2,o3,o4⟩:=h.own x ho;refine ih (fun y hy=>hl y (by simp[hy])) ?_ (h1.send hi (fun _=>⟨o1,o2,?_⟩) (kno rfl))
     ·rw[(Zeo _ _ _).2.1,e1];exact ho
     ·rw[e2];exact o4
  exact this all4 (fun i hi=>Zr1.1 hi) ho h
theorem NI.work2(h:NI signs rogue k n ms j)(hup:n.up=true)(round:Int):∃ms',ms <+: ms'∧NI signs rogue k (work2 n round) ms' j:=by
 unfold Fl.work2;split
 ·rename_i ho;refine h.propose hup round fun s hs hsa=>?_
  obtain⟨x,e,_⟩:=h.last s hs hsa;rw[ho]at e;cases e
 ·rename_i x ho;split
  ·rename_i hlt;refine h.propose hup round fun s hs hsa=>?_
   obtain⟨y,e,hle⟩:=h.last s hs hsa;rw[ho]at e;injection e with e;subst e;omega
  ·split
   ·exact⟨ms,List.prefix_refl _,h.again⟩
   ·exact⟨ms,List.prefix_refl _,h⟩
theorem Zja(me t:Int):0≤Zf5 me t∧Zf5 me t≤3:=by
 unfold Zf5
 split<;>omega
theorem NI.work3(h:NI signs rogue k n ms j)(round:Int):NI signs rogue k (work3 n round) ms j:=by
 unfold Fl.work3;have h1:NI signs rogue k {n with turn:=Zf5 n.me n.turn } ms j:=h.other (n:=n) rfl rfl rfl rfl rfl rfl rfl rfl (Zja _ _) (fun q=>q);exact h1.send (m:=wntM (wanted n round)) (Zja _ _) (kno rfl) (kno rfl)
theorem Zwg(n:Nd):(Fl.work1 n).up=n.up:=by
 unfold Fl.work1;split
 ·unfold tell;rw[(Zim _ _ _).1];exact Zrb n _ _
 ·split
  ·exact Zrb n _ _
  ·rfl
theorem NI.work(h:NI signs rogue k n ms j)(hup:n.up=true):∃ms',ms <+: ms'∧NI signs rogue k (work n) ms' j:=by
 unfold Fl.work;obtain⟨m1,a1,a2⟩:=h.work1 hup;obtain⟨m2,b1,b2⟩:=a2.work2 (by rw[Zwg];exact hup) (rndV (Fl.work1 n).dag);exact⟨m2,a1.trans b1,b2.work3 _⟩
theorem Zgr{signs':List Sign}{rogue v:Int}{s:Slot}(hs:∀x∈signs,x∈signs')(h:sgn signs rogue v s):sgn signs' rogue v s:=h.imp id (hs _)
theorem NI.mono{signs':List Sign}(hS:SI signs rogue)(hS':SI signs' rogue)(hs:∀x∈signs,x∈signs')(h:NI signs rogue k n ms j):NI signs' rogue k n ms j:=by
 refine⟨h.tap,fun i hi=>?_,h.core,h.me,h.kr,h.own,fun v hv=>?_,h.once,h.out,h.turn,h.down,h.last⟩
 ·obtain⟨p1,p2,p3,p4⟩:=h.recs i hi;refine⟨p1,fun e=>?_,fun e=>?_,p4⟩
  ·obtain⟨a,b,c,d⟩:=p2 e;exact⟨a,b,c,Zgr hs d⟩
  ·obtain⟨a,b⟩:=p3 e;obtain⟨b1,b2⟩:=(Ziu hS).1 b;exact⟨a,(Ziu hS').2 ⟨b1,fun x hx=>Zgr hs (b2 x hx)⟩⟩
 ·exact(h.voters v hv).imp id (fun⟨x,e1,e2⟩=>⟨x,e1,Zgr hs e2⟩)
theorem SI.add(hS:SI signs rogue){s:Sign}(h1:Zm2 s)(h2:s.node≠rogue)(h3:s.slot.author=s.node∨sgn signs rogue s.slot.author s.slot) :
 SI (addL signs s) rogue∧(∀x,x∈addL signs s↔x∈signs∨x=s)∧signs <+: addL signs s:=by
 have h0:addE signs s=0:=by
  unfold addE;rw[hS.ok];exact h1
 unfold addL;rw[if_neg (by simp[h0])]
 by_cases hm:Zcc signs s=true
 ·rw[if_pos hm];refine⟨hS,fun x=>⟨.inl,fun h=>?_⟩,List.prefix_refl _⟩
  rcases h with h|h
  ·exact h
  ·rw[h];exact Zc8.1 hm
 ·rw[if_neg hm];have hnm:s∉signs:=fun h=>hm (Zc8.2 h)
  obtain⟨q1,q2⟩:=Zkj.1 hS.ok;refine⟨⟨Zkj.2 ⟨fun x hx=>?_,?_⟩,hS.range,fun x hx=>?_,fun x hx=>?_⟩,fun x=>by simp,List.prefix_append _ _⟩
  ·rcases List.mem_append.1 hx with hx|hx
   ·exact q1 x hx
   ·rw[List.mem_singleton.1 hx];exact h1
  ·unfold List.Nodup;rw[List.pairwise_append];refine⟨q2,List.pairwise_singleton _ _,fun a ha b hb=>?_⟩;rw[List.mem_singleton.1 hb];exact fun e=>hnm (e▸ha)
  ·rcases List.mem_append.1 hx with hx|hx
   ·exact(hS.author x hx).imp id (Zgr fun y hy=>by simp[hy])
   ·rw[List.mem_singleton.1 hx];exact h3.imp id (Zgr fun y hy=>by simp[hy])
  ·rcases List.mem_append.1 hx with hx|hx
   ·exact hS.honest x hx
   ·rw[List.mem_singleton.1 hx];exact h2
def Zhe(m:Msg):Prop:=(0≤m.src∧m.src≤3)∧(0≤m.dst∧m.dst≤3)
structure SyncOk (k:Int) (table:List Slot) (signs signs':List Sign) (rogue:Int) (away away':List Msg):Prop where
 si:SI signs' rogue
 grow:signs <+: signs'
 new:∀x∈signs',x∈signs∨(x.node=k∧x.slot∈table)
 away:∀m∈away',Zhe m
theorem Zon(hk:0≤k∧k≤3)(hr:k≠rogue){table:List Slot}(ht:Zdb table=0) :
 ∀(out:List Msg) (signs:List Sign) (away:List Msg),SI signs rogue→(∀s∈table,s.author=k∨sgn signs rogue s.author s)→(∀m∈out,OutOk k table m)→(∀m∈away,Zhe m) →
  SyncOk k table signs (out.foldl (Zc6 k) (signs,away)).1 rogue away (out.foldl (Zc6 k) (signs,away)).2
 |[],signs,away,hS,_,_,ha=>⟨hS,List.prefix_refl _,fun x hx=>.inl hx,ha⟩
 |m::out,signs,away,hS,hT,ho,ha=>by
  rw[List.foldl_cons]
  have hm:=ho m (by simp)
  have ha':∀x∈(Zc6 k (signs,away) m).2,Zhe x:=by
   unfold Zc6
   simp only
   split
   ·intro x hx
    rcases List.mem_append.1 hx with hx|hx
    ·exact ha x hx
    ·rw[List.mem_singleton.1 hx]
     obtain⟨e1,e2,_⟩:=hm
     exact⟨by rw[e1];exact hk,e2⟩
   ·exact ha
  have hslot:∀s∈table,SI (addL signs ⟨k,s⟩) rogue∧(∀x,x∈addL signs ⟨k,s⟩↔x∈signs∨x=⟨k,s⟩)∧signs <+: addL signs ⟨k,s⟩:=fun s hs =>
   hS.add (Zmk.2 ⟨hk,(Zc5.1 ht).2.1 s hs⟩) hr (hT s hs)
  have hstep:SI (Zc6 k (signs,away) m).1 rogue∧signs <+: (Zc6 k (signs,away) m).1∧∀x∈(Zc6 k (signs,away) m).1,x∈signs∨(x.node=k∧x.slot∈table):=by
   unfold Zc6 Zml
   by_cases e2:m.kind=2
   ·obtain⟨q1,q2,q3⟩:=hm.2.2.1 e2
    rw[if_pos e2]
    simp only
    have e:(⟨m.hdr.author,m.hdr.round,hdR m.hdr⟩:Slot)=Zcj m.hdr:=by rw[Zvg q2];rfl
    rw[e]
    obtain⟨p1,p2,p3⟩:=hslot _ q3
    refine⟨p1,p3,fun x hx=>?_⟩
    rcases(p2 x).1 hx with h|h
    ·exact .inl h
    ·rw[h];exact .inr ⟨rfl,q3⟩
   ·rw[if_neg e2]
    by_cases e3:m.kind=3
    ·rw[if_pos e3]
     simp only
     have q3:=hm.2.2.2 e3
     obtain⟨p1,p2,p3⟩:=hslot _ q3
     refine⟨p1,p3,fun x hx=>?_⟩
     rcases(p2 x).1 hx with h|h
     ·exact .inl h
     ·rw[h];exact .inr ⟨rfl,q3⟩
    ·rw[if_neg e3]
     exact⟨hS,List.prefix_refl _,fun x hx=>.inl hx⟩
  obtain⟨s1,s2,s3⟩:=hstep
  have ih:=Zon hk hr ht out (Zc6 k (signs,away) m).1 (Zc6 k (signs,away) m).2 s1 (fun s hs=>(hT s hs).imp id (Zgr fun x hx=>s2.subset hx)) (fun x hx=>ho x (by simp[hx])) ha'
  refine⟨ih.si,s2.trans ih.grow,fun x hx=>?_,ih.away⟩
  rcases ih.new x hx with h|h
  ·exact s3 x h
  ·exact .inr h
theorem NI.syncN(h:NI signs rogue k n ms j):NI signs rogue k (syncN n) ms ms.length:=by
 have hm:=h.tap.may;have e1:(Fl.syncN n).tl=n.tl:=by unfold Fl.syncN;simp only[hm,if_true]
 have e2:(Fl.syncN n).ty=n.tl.length:=by unfold Fl.syncN;simp only[hm,if_true]
 refine⟨⟨h.tap.good,by rw[e1];exact h.tap.tl,by rw[e1];exact h.tap.short,Nat.le_refl _,by rw[e2,List.take_length,h.tap.tl]⟩,h.recs,h.core,h.me,h.kr,h.own,h.voters,h.once,fun x hx=>?_,h.turn,fun _=>rfl,h.last⟩;simp[Fl.syncN]at hx
theorem Zza(n:Nd)(m:Msg):(recS n m).me=n.me:=by
 unfold recS;split
 ·split
  ·exact Zgq n _ _
  ·exact Zgq n _ _
 ·split
  ·rfl
  ·split
   ·rfl
   ·split
    ·exact Zo7 n _ _
    ·rfl
structure Back (k:Int) (n:Nd):Prop where
 me:n.me=k
 up:n.up=false
 out:n.out=[]
 txs:n.txs=[]
 turn:n.turn=0
 voters:(n.own=none∧n.voters=[])∨((∃h,n.own=some h)∧n.voters=[k])
theorem Zgp(n:Nd)(b:Bat):(store n b false).1.own=n.own∧(store n b false).1.voters=n.voters∧(store n b false).1.out=n.out∧(store n b false).1.up=n.up∧(store n b false).1.txs=n.txs∧(store n b false).1.turn=n.turn∧(store n b false).1.tl=n.tl∧(store n b false).1.ty=n.ty∧(store n b false).1.mine=n.mine∧(store n b false).1.table=n.table:=by
 unfold Fl.store put;split
 ·exact⟨rfl,rfl,rfl,rfl,rfl,rfl,rfl,rfl,rfl,rfl⟩
 ·exact⟨rfl,rfl,rfl,rfl,rfl,rfl,rfl,rfl,rfl,rfl⟩
theorem Zf2(n:Nd)(c:Crt):(insert n c false).1.own=n.own∧(insert n c false).1.voters=n.voters∧(insert n c false).1.out=n.out∧(insert n c false).1.up=n.up∧(insert n c false).1.txs=n.txs∧(insert n c false).1.turn=n.turn∧(insert n c false).1.tl=n.tl∧(insert n c false).1.ty=n.ty∧(insert n c false).1.mine=n.mine∧(insert n c false).1.table=n.table:=by
 unfold Fl.insert;split
 ·exact⟨rfl,rfl,rfl,rfl,rfl,rfl,rfl,rfl,rfl,rfl⟩
 ·exact⟨rfl,rfl,rfl,rfl,rfl,rfl,rfl,rfl,rfl,rfl⟩
theorem Back.recS{n:Nd}(h:Back k n)(m:Msg):Back k (recS n m)∧(Fl.recS n m).tl=n.tl∧(Fl.recS n m).ty=n.ty:=by
 unfold Fl.recS;split
 ·obtain⟨a,b,c,d,e,f,g1,g2,_⟩:=Zgp n m.bat;split
  ·exact⟨⟨by show(store n m.bat false).1.me=k;rw[Zgq];exact h.me,d.trans h.up,c.trans h.out,e.trans h.txs,f.trans h.turn,by show((store n m.bat false).1.own=_∧(store n m.bat false).1.voters=_)∨((∃h,(store n m.bat false).1.own=_)∧(store n m.bat false).1.voters=_);rw[a,b];exact h.voters⟩,g1,g2⟩
  ·exact⟨⟨by rw[Zgq];exact h.me,d.trans h.up,c.trans h.out,e.trans h.txs,f.trans h.turn,by rw[a,b];exact h.voters⟩,g1,g2⟩
 ·split
  ·exact⟨⟨h.me,h.up,h.out,h.txs,h.turn,.inr ⟨⟨_,rfl⟩,by rw[h.me]⟩⟩,rfl,rfl⟩
  ·split
   ·exact⟨⟨h.me,h.up,h.out,h.txs,h.turn,h.voters⟩,rfl,rfl⟩
   ·split
    ·obtain⟨a,b,c,d,e,f,g1,g2,_⟩:=Zf2 n m.crt;exact⟨⟨by rw[Zo7];exact h.me,d.trans h.up,c.trans h.out,e.trans h.txs,f.trans h.turn,by rw[a,b];exact h.voters⟩,g1,g2⟩
    ·exact⟨h,rfl,rfl⟩
theorem Back.fold:∀(ms:List Msg) {n:Nd},Back k n→Back k (ms.foldl Fl.recS n)∧(ms.foldl Fl.recS n).tl=n.tl∧(ms.foldl Fl.recS n).ty=n.ty
 |[],n,h=>⟨h,rfl,rfl⟩
 |m::ms,n,h=>by
  rw[List.foldl_cons]
  obtain⟨h1,h2,h3⟩:=h.recS m
  obtain⟨k1,k2,k3⟩:=Back.fold ms h1
  exact⟨k1,k2.trans h2,k3.trans h3⟩
def Ztu(k:Int)(n:Nd):Prop:=∀h,n.own=some h→h.author=k∧hF h=0∧n.mine=hD h∧Zcj h∈n.table
theorem Zw7{c:Co}(hc:core n=c)(hr:Ztt signs rogue k c m)(h:Ztu k n):Ztu k (recS n m):=by
 have hle:=Zlf (core n) m;rw[←Zpi]at hle;have hsub:∀s∈n.table,s∈(recS n m).table:=fun s hs=>hle.table.subset hs
 unfold Fl.recS at hsub⊢;split
 ·rename_i e1;rw[if_pos e1]at hsub;obtain⟨a,b,c,d,e,f,g1,g2,g3,g4⟩:=Zgp n m.bat;split
  ·intro x hx;have hx:(store n m.bat false).1.own=some x:=hx;rw[a]at hx;obtain⟨p1,p2,p3,p4⟩:=h x hx;exact⟨p1,p2,g3.trans p3,by show _∈(store n m.bat false).1.table;rw[g4];exact p4⟩
  ·intro x hx;rw[a]at hx;obtain⟨p1,p2,p3,p4⟩:=h x hx;exact⟨p1,p2,g3.trans p3,by rw[g4];exact p4⟩
 ·rename_i e1;split
  ·rename_i e2;intro x hx;injection hx with hx;subst hx;obtain⟨q1,q2⟩:=hr.1 e2;rw[←hc]at q2;have q2:Ze2 n.table m.hdr=0:=q2;have hv:=(Zeq q2).2.1;refine⟨q1,hv,Zvg hv,?_⟩;show _∈(if Ze2 n.table m.hdr=0 then Zc4 n.table m.hdr else n.table);rw[if_pos q2];exact(Zg0 q2).2.1
  ·rename_i e2;rw[if_neg e1,if_neg e2]at hsub;split
   ·rename_i e3;intro x hx;obtain⟨p1,p2,p3,p4⟩:=h x hx;exact⟨p1,p2,p3,by simp[p4]⟩
   ·rename_i e3;split
    ·obtain⟨a,b,c,d,e,f,g1,g2,g3,g4⟩:=Zf2 n m.crt;intro x hx;rw[a]at hx;obtain⟨p1,p2,p3,p4⟩:=h x hx;exact⟨p1,p2,g3.trans p3,by rw[g4];exact p4⟩
    ·exact h
theorem Zw8{n0:Nd}(hc0:core n0=co0)(h0:Ztu k n0)(hr:RecsOk signs rogue k ms):Ztu k (ms.foldl recS n0):=by
 have:∀i,i≤ms.length→Ztu k ((ms.take i).foldl recS n0):=by
  intro i
  induction i with
  |zero=>intro _;exact h0
  |succ i ih =>
   intro hi;rw[List.take_succ_eq_append_getElem (by omega),List.foldl_append];exact Zw7 (by rw[Zie,hc0];rfl) (hr i (by omega)) (ih (by omega))
 have h1:=this ms.length (Nat.le_refl _);rwa[List.take_length]at h1
def Zm3(k:Int)(n:Nd):Prop:=∀s∈n.table,s.author=k→∃h,n.own=some h∧s.round≤h.round
theorem Zvb{c:Co}(hc:core n=c)(hr:Ztt signs rogue k c m)(h:Zm3 k n):Zm3 k (recS n m):=by
 unfold Fl.recS;split
 ·obtain⟨a,b,c,d,e,f,g1,g2,g3,g4⟩:=Zgp n m.bat;split
  ·intro s hs hsa;have hs:s∈(store n m.bat false).1.table:=hs;rw[g4]at hs;show ∃h,(store n m.bat false).1.own=some h∧_;rw[a];exact h s hs hsa
  ·intro s hs hsa;rw[g4]at hs;rw[a];exact h s hs hsa
 ·split
  ·rename_i e2;obtain⟨_,q2⟩:=hr.1 e2;have q3:=hr.2.2.2.2.1 e2;rw[←hc]at q2 q3;have q2:Ze2 n.table m.hdr=0:=q2;have q3:∀s∈n.table,s.author=k→s.round<m.hdr.round:=q3;intro s hs hsa;have hs:s∈(if Ze2 n.table m.hdr=0 then Zc4 n.table m.hdr else n.table):=hs;rw[if_pos q2]at hs;refine⟨_,rfl,?_⟩;obtain⟨_,_,_,q4⟩:=Zeq q2
   rcases q4 with ⟨e,_⟩|⟨e,_⟩
   ·rw[e]at hs;have:=q3 s hs hsa;omega
   ·rw[e]at hs
    rcases List.mem_append.1 hs with hs|hs
    ·have:=q3 s hs hsa;omega
    ·rw[List.mem_singleton.1 hs];exact Int.le_refl _
  ·split
   ·rename_i e3;have q:=hr.2.2.2.2.2 e3;intro s hs hsa
    rcases List.mem_append.1 hs with hs|hs
    ·exact h s hs hsa
    ·rw[List.mem_singleton.1 hs]at hsa;exact absurd hsa q
   ·split
    ·obtain⟨a,b,c,d,e,f,g1,g2,g3,g4⟩:=Zf2 n m.crt;intro s hs hsa;rw[g4]at hs;rw[a];exact h s hs hsa
    ·exact h
theorem Zvc{n0:Nd}(hc0:core n0=co0)(h0:Zm3 k n0)(hr:RecsOk signs rogue k ms):Zm3 k (ms.foldl recS n0):=by
 have:∀i,i≤ms.length→Zm3 k ((ms.take i).foldl recS n0):=by
  intro i
  induction i with
  |zero=>intro _;exact h0
  |succ i ih =>
   intro hi;rw[List.take_succ_eq_append_getElem (by omega),List.foldl_append];exact Zvb (by rw[Zie,hc0];rfl) (hr i (by omega)) (ih (by omega))
 have h1:=this ms.length (Nat.le_refl _);rwa[List.take_length]at h1
theorem NI.crash(h:NI signs rogue k n ms j){keep:Int}(hk:0≤keep) :
 ∃i,i≤ms.length∧j≤i∧NI signs rogue k (crash n k keep) (ms.take i) i∧Back k (crash n k keep)∧(ms.take i).length=i∧(j=ms.length→i=ms.length):=by
 have hm:=h.tap.may
 obtain⟨N,hN,hN1,hN2⟩:∃N:Nat,Zds n.ty keep n.tl.length=N∧N≤(Zaz ms).length∧(Zaz (ms.take j)).length≤N:=by
  have:=Ze7 ms j;refine⟨_,rfl,?_,?_⟩
  ·unfold Zds;rw[h.tap.ty,h.tap.tl];split<;>omega
  ·unfold Zds;rw[h.tap.ty,h.tap.tl];split<;>omega
 obtain⟨i,i1,i2,i3,i4⟩:=Zus h.tap.good hN1;have hji:=i4 j h.tap.jl hN2;have el:crL n.tl n.ty keep=(Zaz ms).take N:=by unfold crL;rw[if_pos ⟨hm,hk⟩,hN,h.tap.tl]
 have ea:crA n.tl n.ty keep=N:=by unfold crA;rw[if_pos ⟨hm,hk⟩,hN]
 have hlen:((Zaz ms).take N).length=N:=by simp;omega
 have hshort:=h.tap.short;rw[h.tap.tl]at hshort;have hm2:Zba ((Zaz ms).take N) N=true:=by unfold Zba;rw[hlen];simp;omega
 have e1:rcvM ((Zaz ms).take N) N=ms.take i:=by unfold rcvM;rw[hm2,i2];rfl
 have e2:rcvD ((Zaz ms).take N) N=Zaz (ms.take i):=by
  unfold rcvD;rw[hm2,i2];simp only[if_true];rw[List.take_take,Nat.min_eq_left i3];have:Zaz ms=Zaz (ms.take i)++Zaz (ms.drop i):=by rw[←Zdd,List.take_append_drop]
  rw[this,List.take_left]
 have e3:rcvY ((Zaz ms).take N) N=(Zaz (ms.take i)).length:=by
  unfold rcvY;rw[hm2,i2];simp only[if_true]
  split<;>omega
 have ec:Fl.crash n k keep=(ms.take i).foldl recS {fresh k with up:=false,tl:=Zaz (ms.take i),ty:=((Zaz (ms.take i)).length:Nat) }:=by
  unfold Fl.crash;simp only;rw[el,ea,e1,e2,e3]
 have hB0:Back k {fresh k with up:=false,tl:=Zaz (ms.take i),ty:=((Zaz (ms.take i)).length:Nat) }:=⟨rfl,rfl,rfl,rfl,rfl,.inl ⟨rfl,rfl⟩⟩;obtain⟨b1,b2,b3⟩:=Back.fold (ms.take i) hB0;have hrt:=h.recs.take i
 have hown:Ztu k (Fl.crash n k keep):=by
  rw[ec];exact Zw8 (signs:=signs) (rogue:=rogue) rfl (fun x hx=>by cases hx) hrt
 have hlast:Zm3 k (Fl.crash n k keep):=by
  rw[ec];exact Zvc (signs:=signs) (rogue:=rogue) rfl (fun s hs _=>by cases hs) hrt
 have hil:(ms.take i).length=i:=by simp;omega
 rw[←ec]at b1 b2 b3;refine⟨i,i1,hji,⟨⟨fun m hm=>h.tap.good m (List.mem_of_mem_take hm),b2,?_,by omega,?_⟩,hrt,?_,b1.me,h.kr,hown,?_,?_,?_,?_,fun _=>hil.symm,hlast⟩,b1,hil,fun e=>?_⟩
 ·rw[b2];have:=Ze7 ms i;show(Zaz (ms.take i)).length≤_;omega
 ·rw[b3,List.take_take,Nat.min_self]
 ·rw[ec,Zie];rfl
 ·intro v hv
  rcases b1.voters with ⟨_,e⟩|⟨_,e⟩
  ·rw[e]at hv;cases hv
  ·rw[e]at hv;exact .inl (List.mem_singleton.1 hv)
 ·rcases b1.voters with ⟨_,e⟩|⟨_,e⟩
  ·rw[e];exact⟨List.nodup_nil,fun v hv=>by cases hv⟩
  ·rw[e];exact⟨List.pairwise_singleton _ _,fun v hv=>by rw[List.mem_singleton.1 hv];exact h.kr⟩
 ·rw[b1.out];intro m hm;cases hm
 ·rw[b1.turn];decide
 ·have:=hji;omega
end
structure WI (f:Ft):Prop where
 len:f.nodes.length=4
 si:SI f.signs f.rogue
 node:∀i:Int,0≤i→i≤3→∃ms j,NI f.signs f.rogue i (Zan f i) ms j∧∀s∈f.signs,s.node=i→s.slot∈(coOf (ms.take j)).table
 away:∀m∈f.away,Zhe m
theorem Zdv(hl:f.nodes.length=4){i k:Int}(hi:0≤i∧i≤3)(hk:0≤k∧k≤3)(n:Nd):Zan (Za1 f i n) k=if k=i then n else Zan f k:=by
 unfold Zan Za1;simp only
 by_cases e:k=i
 ·subst e;rw[if_pos rfl,List.getElem?_set_self (by omega)];rfl
 ·rw[if_neg e,List.getElem?_set_ne (by omega)]
theorem WI.set(h:WI f){i:Int}(hi:0≤i∧i≤3)(hn:∀ms j,NI f.signs f.rogue i (Zan f i) ms j→∃ms',ms <+: ms'∧NI f.signs f.rogue i n ms' j):WI (Za1 f i n):=by
 refine⟨by unfold Za1;simp[h.len],h.si,fun k h0 h3=>?_,h.away⟩;rw[Zdv h.len hi ⟨h0,h3⟩];obtain⟨ms,j,p1,p2⟩:=h.node k h0 h3
 by_cases e:k=i
 ·subst e;rw[if_pos rfl];obtain⟨ms',q1,q2⟩:=hn ms j p1;refine⟨ms',j,q2,fun s hs he=>?_⟩;have:=p2 s hs he;obtain⟨t,rfl⟩:=q1;rw[List.take_append_of_le_length p1.tap.jl];exact this
 ·rw[if_neg e];exact⟨ms,j,p1,p2⟩
theorem WI.come{f:Ft}(h:WI f){tw:Int}(ht:0≤tw∧tw≤3){m:Msg}(hm:0≤m.src∧m.src≤3):WI (come f tw m):=by
 unfold Fl.come;split
 ·exact h
 ·rename_i hn;simp only[not_or,Bool.not_eq_false]at hn;exact h.set ht fun ms j hN=>hN.come1 h.si hn.1 hm
theorem Zdx(f:Ft)(tw:Int)(m:Msg):(come f tw m).rogue=f.rogue∧(come f tw m).signs=f.signs∧(come f tw m).away=f.away∧(come f tw m).codes=f.codes:=by
 unfold Fl.come;split<;>exact⟨rfl,rfl,rfl,rfl⟩
theorem WI.flow:∀(l:List Msg) {f:Ft},(∀m∈l,Zhe m)→WI f→WI (l.foldl (fun g m=>Fl.come g m.dst m) f)
 |[],_,_,h=>h
 |m::l,f,hl,h=>by
  rw[List.foldl_cons]
  exact WI.flow l (fun x hx=>hl x (by simp[hx])) (h.come (hl m (by simp)).2 (hl m (by simp)).1)
theorem WI.awayed(h:WI f){l:List Msg}(hl:∀m∈l,Zhe m):WI {f with away:=l }:=⟨h.len,h.si,h.node,hl⟩
theorem WI.coded(h:WI f)(l:List Int):WI {f with codes:=l }:=⟨h.len,h.si,h.node,h.away⟩
def AOk(a:At):Prop:=(0≤a.node∧a.node≤3)∧0≤a.pick
theorem Zr2{a:At}(h:actE a=0):AOk a:=by
 unfold actE actF at h;unfold AOk;split at h
 ·cases h
 ·split at h
  ·cases h
  ·rename_i h1;simp only[Bool.or_eq_true,Bool.and_eq_true,Bool.not_eq_true',not_or,not_and,Bool.not_eq_false]at h1;split at h
   ·cases h
   ·split at h
    ·cases h
    ·rename_i h2;simp only[Bool.or_eq_true,Bool.and_eq_true,Bool.not_eq_true',not_or,not_and,bne_iff_ne,ne_eq,Decidable.not_not]at h2;refine⟨?_,?_⟩
     ·by_cases e:hN a.kind=true
      ·exact Zbi.1 (h1.1 e)
      ·have:=h2.1.1 (by simpa using e);omega
     ·by_cases e:hP a.kind=true
      ·exact(Zbi.1 (h1.2 e)).1
      ·have:=h2.1.2 (by simpa using e);omega
theorem Zru{b:List UInt8}(h:decE b=0):msgF (decM b)=0:=by
 have h0:=h;unfold decE at h;unfold decM;rw[if_pos h0];split at h
 ·cases h
 ·split at h
  ·cases h
  ·split at h
   ·cases h
   ·split at h
    ·cases h
    ·split at h
     ·cases h
     ·exact h
theorem WI.sync{f:Ft}(h:WI f){i:Int}(hi:0≤i∧i≤3)(hr:i≠f.rogue):WI (sync f i):=by
 obtain⟨ms,j,p1,p2⟩:=h.node i hi.1 hi.2;have hme:=p1.me;have hS:=Zon hi hr (table:=(Zan f i).table) (by rw[p1.table];exact p1.co.table) (Zan f i).out f.signs f.away h.si (by rw[p1.table];exact p1.co.others) p1.out h.away;unfold Fl.sync;simp only;rw[hme];generalize (Zan f i).out.foldl (Zc6 i) (f.signs,f.away)=p at hS⊢;refine⟨by unfold Za1;simp[h.len],hS.si,fun k h0 h3=>?_,hS.away⟩;show ∃ms j,NI p.1 f.rogue k (Zan (Za1 f i (syncN (Zan f i))) k) ms j∧_;rw[Zdv h.len hi ⟨h0,h3⟩];obtain⟨ms',j',r1,r2⟩:=h.node k h0 h3
 by_cases e:k=i
 ·subst e;rw[if_pos rfl];refine⟨ms',ms'.length,(r1.mono h.si hS.si (fun x hx=>hS.grow.subset hx)).syncN,fun s hs he=>?_⟩;rw[List.take_length,←r1.table]
  rcases hS.new s hs with q|q
  ·have:=r2 s q he;have hle:=Zvy (List.take_prefix j' ms');rw[r1.table];exact hle.table.subset this
  ·exact q.2
 ·rw[if_neg e];refine⟨ms',j',r1.mono h.si hS.si (fun x hx=>hS.grow.subset hx),fun s hs he=>?_⟩
  rcases hS.new s hs with q|q
  ·exact r2 s q he
  ·exact absurd (he.symm.trans q.1) e
theorem WI.crash{f:Ft}(h:WI f){i:Int}(hi:0≤i∧i≤3){keep:Int}(hk:0≤keep):WI (Za1 f i (crash (Zan f i) i keep)):=by
 refine⟨by unfold Za1;simp[h.len],h.si,fun k h0 h3=>?_,h.away⟩;rw[Zdv h.len hi ⟨h0,h3⟩];obtain⟨ms,j,p1,p2⟩:=h.node k h0 h3
 by_cases e:k=i
 ·subst e;rw[if_pos rfl];obtain⟨q,q1,q2,q3,q4,q5,q6⟩:=p1.crash hk;refine⟨ms.take q,q,q3,fun s hs he=>?_⟩;rw[List.take_take,Nat.min_self];have:=p2 s hs he;have hle:=Zvy (a:=ms.take j) (b:=ms.take q) (List.take_prefix_take_left (by omega));exact hle.table.subset this
 ·rw[if_neg e];exact⟨ms,j,p1,p2⟩
theorem WI.act{f:Ft}(h:WI f){a:At}(ha:AOk a)(hr:a.node≠f.rogue):WI (act f a):=by
 unfold Fl.act;simp only;split
 ·exact h.set ha.1 fun ms j hN=>⟨ms,List.prefix_refl _,hN.other (n':={ Zan f a.node with up:=true }) rfl rfl rfl rfl rfl rfl rfl rfl hN.turn (fun q=>by cases q)⟩
 ·split
  ·exact h
  ·rename_i hup;have hup:(Zan f a.node).up=true:=by simpa using hup
   split
   ·exact h.set ha.1 fun ms j hN=>hN.work hup
   ·split
    ·exact h.sync ha.1 hr
    ·split
     ·exact h.crash ha.1 ha.2
     ·exact h
theorem Zwd(f:Ft)(a:At):(act f a).rogue=f.rogue:=by
 unfold Fl.act Fl.sync;simp only;split
 ·rfl
 ·split
  ·rfl
  ·split
   ·rfl
   ·split
    ·rfl
    ·split<;>rfl
theorem Zgu:∀(l:List Msg) (f:Ft),(l.foldl (fun g m=>come g m.dst m) f).rogue=f.rogue∧(l.foldl (fun g m=>come g m.dst m) f).signs=f.signs∧(l.foldl (fun g m=>come g m.dst m) f).away=f.away∧(l.foldl (fun g m=>come g m.dst m) f).codes=f.codes
 |[],f=>⟨rfl,rfl,rfl,rfl⟩
 |m::l,f=>by
  rw[List.foldl_cons]
  obtain⟨h1,h2,h3,h4⟩:=Zgu l (come f m.dst m)
  obtain⟨k1,k2,k3,k4⟩:=Zdx f m.dst m
  exact⟨h1.trans k1,h2.trans k2,h3.trans k3,h4.trans k4⟩
theorem Zgi(f:Ft)(a:At):(doA f a).rogue=f.rogue:=by
 unfold doA submit;simp only;split
 ·split<;>rfl
 ·split
  ·split
   ·rfl
   ·split
    ·exact(Zdx _ _ _).1
    ·rfl
  ·split
   ·split
    ·rfl
    ·split<;>rfl
   ·split
    ·exact(Zgu _ _).1
    ·split
     ·split
      ·exact(Zdx _ _ _).1
      ·rfl
     ·split
      ·exact Zwd _ _
      ·rfl
theorem WI.submit{f:Ft}(h:WI f){a:At}(ha:AOk a):WI (submit f a):=by
 unfold Fl.submit;simp only;split
 ·exact h.set ha.1 fun ms j hN=>⟨ms,List.prefix_refl _,hN.other (n':={ Zan f a.node with txs:=(Zan f a.node).txs++[a.text] }) rfl rfl rfl rfl rfl rfl rfl rfl hN.turn (fun q=>q)⟩
 ·exact h
theorem WI.doA{f:Ft}(h:WI f){a:At}(ha:AOk a):WI (doA f a):=by
 unfold Fl.doA;split
 ·exact(h.submit ha).coded _
 ·split
  ·split
   ·exact h
   ·rename_i m hm;have hmem:=List.mem_of_getElem? hm;have hE:WI {f with away:=f.away.eraseIdx (pick f a.pick) }:=h.awayed fun x hx=>h.away x (List.mem_of_mem_eraseIdx hx)
    split
    ·exact hE.come (h.away m hmem).2 (h.away m hmem).1
    ·exact hE
  ·split
   ·split
    ·exact h
    ·rename_i m hm;have hmem:=List.mem_of_getElem? hm;split
     ·refine h.awayed fun x hx=>?_
      rcases List.mem_append.1 hx with hx|hx
      ·exact h.away x hx
      ·rw[List.mem_singleton.1 hx];exact h.away m hmem
     ·exact h
   ·split
    ·exact WI.flow _ h.away (h.awayed fun x hx=>by cases hx)
    ·split
     ·split
      ·rename_i hd;exact h.come ha.1 (msgF_zero (Zru hd.1)).1
      ·exact h
     ·split
      ·rename_i hr;exact h.act ha hr
      ·exact h
theorem Zxe{rogue k:Int}(hk:0≤k∧k≤3):NI [] rogue k (fresh k) [] 0 :=
 ⟨⟨fun m hm=>(by cases hm),rfl,(by simp[fresh]),Nat.le_refl _,rfl⟩,fun i hi=>(by simp at hi),rfl,rfl,hk,fun h hh=>(by cases hh),fun v hv=>(by cases hv),⟨List.nodup_nil,fun v hv=>(by cases hv)⟩,fun m hm=>(by cases hm),(show(0:Int)≤0∧(0:Int)≤3 by decide),fun h=>(by cases h),fun s hs=>(by cases hs)⟩
theorem WI.start{rogue:Int}(hr:inB rogue (-1) 3=true):WI (start rogue):=by
 refine⟨rfl,⟨rfl,hr,fun s hs=>(by cases hs),fun s hs=>(by cases hs)⟩,fun i h0 h3=>?_,fun m hm=>(by cases hm)⟩
 have:Zan (Fl.start rogue) i=fresh i:=by
  have:i=0∨i=1∨i=2∨i=3:=by omega
  rcases this with rfl|rfl|rfl|rfl<;>rfl
 rw[this];exact⟨[],0,Zxe ⟨h0,h3⟩,fun s hs=>(by cases hs)⟩
theorem WI.fold:∀(l:List At) {f:Ft},(∀a∈l,AOk a)→WI f→WI (l.foldl Fl.doA f)
 |[],_,_,h=>h
 |a::l,f,hl,h=>by
  rw[List.foldl_cons]
  exact WI.fold l (fun x hx=>hl x (by simp[hx])) (h.doA (hl a (by simp)))
theorem Zgb(rogue:Int)(l:List At):(run rogue l).rogue=rogue:=by
 have:∀(l:List At) (f:Ft),(l.foldl doA f).rogue=f.rogue:=by
  intro l
  induction l with
  |nil=>intro f;rfl
  |cons a l ih=>intro f;rw[List.foldl_cons,ih,Zgi]
 exact this l _
theorem Zqx{rogue k:Int}(h:NI signs rogue k n ms ms.length){keep:Int}(hk:0≤keep):core (crash n k keep)=core n∧(crash n k keep).txs=[]∧(crash n k keep).up=false:=by
 obtain⟨i,i1,i2,i3,i4,i5,i6⟩:=h.crash hk;have e:=i6 rfl;rw[e,List.take_length]at i3;exact⟨i3.core.trans h.core.symm,i4.txs,i4.up⟩
def Zb4(i p:Int):At:=⟨7,i,p,ByteArray.empty⟩
def Zbk(i:Int):At:=⟨8,i,0,ByteArray.empty⟩
def Zc1(i:Int):At:=⟨3,i,0,ByteArray.empty⟩
theorem Zqt{a:At}(h:a.kind=2∨a.kind=3∨a.kind=7∨a.kind=8)(hr:a.node≠f.rogue):doA f a=act f a:=by
 unfold doA;rw[if_neg (by omega),if_neg (by omega),if_neg (by omega),if_neg (by omega),if_neg (by omega),if_pos hr]
theorem Zmr(h:WI f){i:Int}(hi:0≤i∧i≤3)(hr:i≠f.rogue):doA f (Zbk i)=Za1 f i {Zan f i with up:=true }:=by
 rw[Zqt (.inr (.inr (.inr rfl))) hr];unfold act;simp only;rw[if_pos (show(Zbk i).kind=8 from rfl)];rfl
theorem Ziy(h:WI f){i p:Int}(hi:0≤i∧i≤3)(hr:i≠f.rogue):doA f (Zb4 i p)=if (Zan f i).up=false then f else Za1 f i (crash (Zan f i) i p):=by
 rw[Zqt (.inr (.inr (.inl rfl))) hr];unfold act;simp only;rw[if_neg (kno rfl:¬(Zb4 i p).kind=8),if_neg (kno rfl:¬(Zb4 i p).kind=2),if_neg (kno rfl:¬(Zb4 i p).kind=3),if_pos (show(Zb4 i p).kind=7 from rfl)];rfl
theorem Zs0(h:WI f){i:Int}(hi:0≤i∧i≤3)(hr:i≠f.rogue)(hup:(Zan f i).up=true):doA f (Zc1 i)=sync f i:=by
 rw[Zqt (.inr (.inl rfl)) hr];unfold act;simp only;rw[if_neg (kno rfl:¬(Zc1 i).kind=8),if_neg (show ¬(Zan f (Zc1 i).node).up=false by rw[show(Zc1 i).node=i from rfl,hup];decide),if_neg (kno rfl:¬(Zc1 i).kind=2),if_pos (show(Zc1 i).kind=3 from rfl)];rfl
theorem Zev(hl:f.nodes.length=4){i:Int}(hi:0≤i∧i≤3)(n:Nd):Zan (Za1 f i n) i=n:=by rw[Zdv hl hi hi,if_pos rfl]
theorem Zti(h:WI f){i p:Int}(hi:0≤i∧i≤3)(hp:0≤p)(hr:i≠f.rogue):(Zan (doA f (Zb4 i p)) i).up=false∧WI (doA f (Zb4 i p))∧(doA f (Zb4 i p)).away=f.away:=by
 refine⟨?_,h.doA ⟨hi,hp⟩,?_⟩
 ·rw[Ziy h hi hr];split
  ·assumption
  ·rw[Zev h.len hi];obtain⟨ms,j,p1,_⟩:=h.node i hi.1 hi.2;obtain⟨_,_,_,_,q,_⟩:=p1.crash hp;exact q.up
 ·rw[Ziy h hi hr]
  split<;>rfl
theorem Zts(h:WI f){i p:Int}(hi:0≤i∧i≤3)(hp:0≤p)(hr:i≠f.rogue)(hN:NI f.signs f.rogue i (Zan f i) ms ms.length)(hup:(Zan f i).up=true) :
 core (Zan (doA (doA f (Zb4 i p)) (Zbk i)) i)=core (Zan f i)∧(Zan (doA (doA f (Zb4 i p)) (Zbk i)) i).up=true∧(Zan (doA (doA f (Zb4 i p)) (Zbk i)) i).txs=[]∧(doA (doA f (Zb4 i p)) (Zbk i)).away=f.away:=by
 have hW:=h.doA (a:=Zb4 i p) ⟨hi,hp⟩;have hr':i≠(doA f (Zb4 i p)).rogue:=by rw[Zgi];exact hr
 rw[Zmr hW hi hr',Zev hW.len hi];obtain⟨q1,q2,q3⟩:=Zqx hN hp
 have e:Zan (doA f (Zb4 i p)) i=crash (Zan f i) i p:=by
  rw[Ziy h hi hr,if_neg (by rw[hup];decide),Zev h.len hi]
 rw[e];refine⟨q1,rfl,q2,?_⟩;show(doA f (Zb4 i p)).away=f.away;exact(Zti h hi hp hr).2.2
theorem Zww(h:WI f){i:Int}(hi:0≤i∧i≤3)(hr:i≠f.rogue)(hup:(Zan f i).up=true):∃ms,NI (doA f (Zc1 i)).signs (doA f (Zc1 i)).rogue i (Zan (doA f (Zc1 i)) i) ms ms.length∧(Zan (doA f (Zc1 i)) i).up=true:=by
 have hW:=h.doA (a:=Zc1 i) ⟨hi,Int.le_refl _⟩;obtain⟨ms,j,p1,_⟩:=hW.node i hi.1 hi.2
 have e:Zan (doA f (Zc1 i)) i=syncN (Zan f i):=by
  rw[Zs0 h hi hr hup];exact Zev h.len hi _
 rw[e]at p1⊢;refine⟨ms,?_,hup⟩
 have hm:Zba (Zan f i).tl (Zan f i).ty=true:=by
  obtain⟨_,_,q,_⟩:=h.node i hi.1 hi.2;exact q.tap.may
 have ht:(syncN (Zan f i)).ty=(syncN (Zan f i)).tl.length:=by unfold syncN;simp only[hm,if_true]
 have hj:=p1.tap.ty;rw[ht,p1.tap.tl]at hj;have hj:(Zaz ms).length=(Zaz (ms.take j)).length:=by omega
 have hjl:j=ms.length:=by
  have e2:Zaz ms=Zaz (ms.take j)++Zaz (ms.drop j):=by rw[←Zdd,List.take_append_drop]
  rw[e2,List.length_append]at hj;have:=Znn (ms.drop j);have hh:=p1.tap.jl;simp at this;omega
 rw[hjl]at p1;exact p1
def takeA(p:Int):At:=⟨4,0,p,ByteArray.empty⟩
def copyA(p:Int):At:=⟨6,0,p,ByteArray.empty⟩
theorem batchB_len{a n:Int}{l:List ByteArray}(h:Zcq a n l=0):(Zfd a n l).length≤89:=by
 obtain⟨_,_,_,q4,q5⟩:=batchF_zero h;have:=texts_len l (fun s hs=>(q5 s hs).2);simp only[Zfd,Zb9,List.length_append,List.length_cons,List.length_nil];omega
def workA(i:Int):At:=⟨2,i,0,ByteArray.empty⟩
def flowA:At:=⟨10,0,0,ByteArray.empty⟩
end Fl
end Go.Proofs.YtinibgklgehdpaaGreatDoor
