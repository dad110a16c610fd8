/- A part of what the last text stands on. -/
import Derived.Test.YtinibgklgehdpaaGreatDoorK18
namespace Go.Proofs.YtinibgklgehdpaaGreatDoor
open Go.ChangeShapes Go.WideShapes Go.ChangeAt Go.RowKit Qa Qb Qc
set_option linter.all false
set_option maxHeartbeats 20000000
set_option maxRecDepth 100000
variable{j:Nat}{m:Msg}{n:Fl.Nd}{ms:List Msg}{signs:List Sign}{l:List Crt}
namespace Fl
structure Co where
 bats:List Bat
 digs:List (List UInt8)
 table:List Slot
 dag:List Crt
def core(n:Nd):Co:=⟨n.bats,n.digs,n.table,n.dag⟩
def Zjt(c:Co)(b:Bat):Co:=if 0≤idxI (·==bdR b) c.digs∨c.bats.length=800 then c else {c with bats:=c.bats++[b],digs:=c.digs++[bdR b] }
def Ze1(c:Co)(m:Msg):Co :=
 if m.kind=1 then Zjt c m.bat
 else if m.kind=2 then {c with table:=if Ze2 c.table m.hdr=0 then Zc4 c.table m.hdr else c.table }
 else if m.kind=3 then {c with table:=c.table++[m.slt] }
 else if m.kind=4 then(if insE c.dag m.crt≠0 then c else {c with dag:=insL c.dag m.crt })
 else c
def co0:Co:=⟨[],[],[],[]⟩
def coOf(ms:List Msg):Co:=ms.foldl Ze1 co0
theorem Zlg(ms:List Msg)(m:Msg):coOf (ms++[m])=Ze1 (coOf ms) m:=by simp[coOf,List.foldl_append]
theorem Zkd(n:Nd)(b:Bat):core (store n b false).1=Zjt (core n) b:=by
 unfold store Zjt
 by_cases h:0≤held n (bdR b)∨n.bats.length=800
 ·rw[if_pos h,if_pos (show 0≤idxI (·==bdR b) (core n).digs∨(core n).bats.length=800 from h)]
 ·rw[if_neg h,if_neg (show ¬(0≤idxI (·==bdR b) (core n).digs∨(core n).bats.length=800) from h)];rfl
theorem Zgq(n:Nd)(b:Bat)(w:Bool):(store n b w).1.me=n.me:=by
 unfold store kept put;split<;>(try split)<;>(try split)<;>rfl
theorem Zo7(n:Nd)(c:Crt)(w:Bool):(insert n c w).1.me=n.me:=by
 unfold insert kept;split<;>(try split)<;>(try split)<;>rfl
theorem Zpi(n:Nd)(m:Msg):core (recS n m)=Ze1 (core n) m:=by
 unfold recS Ze1;split
 ·split
  ·have:=Zkd n m.bat;simpa[core]using this
  ·exact Zkd n m.bat
 ·split
  ·rfl
  ·split
   ·rfl
   ·split
    ·unfold insert
     by_cases h:insE n.dag m.crt≠0
     ·rw[if_pos h,if_pos (show insE (core n).dag m.crt≠0 from h)]
     ·rw[if_neg h,if_neg (show ¬insE (core n).dag m.crt≠0 from h)];rfl
    ·rfl
theorem Zie(ms:List Msg)(n:Nd):core (ms.foldl recS n)=ms.foldl Ze1 (core n):=by
 induction ms generalizing n with
 |nil=>rfl
 |cons m ms ih=>rw[List.foldl_cons,List.foldl_cons,ih,Zpi]
theorem Zmt{x s:Sign}:Ze9 x s=true↔x=s:=by
 obtain⟨a,b,c,d⟩:=x;obtain⟨a',b',c',d'⟩:=s;simp[Ze9]
theorem Zc8{l:List Sign}{s:Sign}:Zcc l s=true↔s∈l:=by
 unfold Zcc;rw[List.any_eq_true];constructor
 ·rintro⟨x,hx,h⟩;rw[←Zmt.1 h];exact hx
 ·intro h;exact⟨s,h,Zmt.2 rfl⟩
def Zm2(s:Sign):Prop:=Zkl s.node s.slot.author s.slot.round s.slot.digest.length=0
theorem Zmk{s:Sign}:Zm2 s↔(0≤s.node∧s.node≤3)∧Zlu s.slot:=by
 unfold Zm2 Zkl Zlu;constructor
 ·intro h;split at h
  ·rename_i h1;exact⟨Zbi.1 h1,h⟩
  ·cases h
 ·rintro⟨h1,h2⟩;rw[if_pos (Zbi.2 h1)];exact h2
theorem Zkj{l:List Sign}:Zef l=0↔(∀s∈l,Zm2 s)∧l.Nodup:=by
 unfold Zef;constructor
 ·intro h;split at h
  ·cases h
  ·rename_i h2;rw[Bool.not_eq_true,List.any_eq_false]at h2
   have hall:∀i (hi:i<l.length),Zm2 l[i]∧l[i]∉l.take i:=fun i hi=>by
    have:=h2 i (List.mem_range.2 hi);unfold Zho at this;rw[List.getElem?_eq_getElem hi]at this;simp only[Bool.or_eq_true,not_or,bne_iff_ne,ne_eq,Decidable.not_not]at this;exact⟨this.1,fun hm=>this.2 (Zc8.2 hm)⟩
   refine⟨fun s hs=>?_,?_⟩
   ·obtain⟨i,hi,rfl⟩:=List.getElem_of_mem hs;exact(hall i hi).1
   ·unfold List.Nodup;rw[List.pairwise_iff_getElem];intro i j hi hj hij e;exact(hall j hj).2 (by rw[List.mem_take_iff_getElem];exact⟨i,by omega,e⟩)
 ·rintro⟨h1,h2⟩;rw[if_neg];rw[Bool.not_eq_true,List.any_eq_false];intro i hi;have hi:=List.mem_range.1 hi;unfold Zho;rw[List.getElem?_eq_getElem hi];simp only[Bool.or_eq_true,not_or,bne_iff_ne,ne_eq,Decidable.not_not];refine⟨h1 _ (List.getElem_mem hi),fun h=>?_⟩;have hm:=Zc8.1 h;rw[List.mem_take_iff_getElem]at hm;obtain⟨j,hj,e⟩:=hm;exact List.pairwise_iff_getElem.1 h2 j i (by omega) hi (by omega) e
def sgn(signs:List Sign)(rogue:Int)(v:Int)(s:Slot):Prop:=v=rogue∨⟨v,s⟩∈signs
structure SI (signs:List Sign) (rogue:Int):Prop where
 ok:Zef signs=0
 range:inB rogue (-1) 3=true
 author:∀s∈signs,s.slot.author=s.node∨sgn signs rogue s.slot.author s.slot
 honest:∀s∈signs,s.node≠rogue
theorem Ziq{rogue v:Int}{s:Slot}(h:SI signs rogue):signed signs rogue v s=true↔Zm2 ⟨v,s⟩∧sgn signs rogue v s:=by
 unfold signed Zir Zkk;rw[h.ok,h.range];simp only[ne_eq,not_true_eq_false,if_false,if_true,Bool.if_false_left,Bool.and_eq_true,Bool.or_eq_true,beq_iff_eq,Bool.not_eq_true',decide_eq_false_iff_not,Decidable.not_not];rw[Zc8];rfl
theorem Ziu{rogue:Int}{c:Crt}(h:SI signs rogue):Zl4 signs rogue c=0↔cF c=0∧∀n∈c.voters++[c.hdr.author],sgn signs rogue n (Zki c):=by
 unfold Zl4;rw[h.ok,h.range];simp only[ne_eq,not_true_eq_false,if_false,if_true]
 by_cases h1:cF c=0
 ·rw[h1];simp only[not_true_eq_false,if_false];rw[true_and]
  by_cases h2:(c.voters++[c.hdr.author]).all (Zdi signs rogue (Zki c))=true
  ·rw[if_pos h2];refine⟨fun _ n hn=>?_,fun _=>rfl⟩;have:=List.all_eq_true.1 h2 n hn;unfold Zdi at this;simp only[Bool.or_eq_true,beq_iff_eq]at this;exact this.imp id Zc8.1
  ·rw[if_neg h2];refine⟨fun h=>(by cases h),fun h=>absurd (List.all_eq_true.2 fun n hn=>?_) h2⟩;unfold Zdi;simp only[Bool.or_eq_true,beq_iff_eq];exact(h n hn).imp id Zc8.2
 ·rw[if_pos h1];exact⟨fun h=>absurd h h1,fun h=>absurd h.1 h1⟩
def RecNew(k:Int)(c:Co)(m:Msg):Prop :=
 (m.kind=1→¬(0≤idxI (·==bdR m.bat) c.digs∨c.bats.length=800)∧Zcq m.bat.author m.bat.number m.bat.txs=0) ∧
 (m.kind=2→∀s∈c.table,s.author=k→s.round<m.hdr.round)∧(m.kind=3→m.slt.author≠k)
def Ztt(signs:List Sign)(rogue k:Int)(c:Co)(m:Msg):Prop :=
 (m.kind=2→m.hdr.author=k∧Ze2 c.table m.hdr=0) ∧
 (m.kind=3→Zlu m.slt∧c.table.length<400∧(∀s∈c.table,¬(s.author=m.slt.author∧s.round=m.slt.round))∧sgn signs rogue m.slt.author m.slt) ∧
 (m.kind=4→insE c.dag m.crt=0∧Zl4 signs rogue m.crt=0)∧RecNew k c m
def RecsOk(signs:List Sign)(rogue k:Int)(ms:List Msg):Prop:=∀i (hi:i<ms.length),Ztt signs rogue k (coOf (ms.take i)) ms[i]
theorem RecsOk.take{rogue k:Int}(h:RecsOk signs rogue k ms)(j:Nat):RecsOk signs rogue k (ms.take j):=fun i hi=>by
 have hi':i<j∧i<ms.length:=by simp at hi;omega
 have:=h i hi'.2
 rw[List.take_take,Nat.min_eq_left (by omega),List.getElem_take]
 exact this
theorem RecsOk.snoc{rogue k:Int}(h:RecsOk signs rogue k ms)(hm:Ztt signs rogue k (coOf ms) m):RecsOk signs rogue k (ms++[m]):=fun i hi=>by
 by_cases hlt:i<ms.length
 ·rw[List.take_append_of_le_length (by omega),List.getElem_append_left hlt]
  exact h i hlt
 ·have:i=ms.length:=by simp at hi;omega
  subst this
  rw[List.take_left' rfl]
  simpa using hm
structure CoOk (signs:List Sign) (rogue k:Int) (c:Co):Prop where
 digs:c.digs=c.bats.map bdR
 few:c.bats.length≤800
 bats:(∀b∈c.bats,Zcq b.author b.number b.txs=0)∧c.digs.Nodup
 table:Zdb c.table=0
 others:∀s∈c.table,s.author=k∨sgn signs rogue s.author s
 dag:dagF hD cF c.dag=0
 prov:∀x∈c.dag,Zl4 signs rogue x=0
theorem Ztk{c:Co}(b:Bat)(h:c.digs=c.bats.map bdR):(Zjt c b).digs=(Zjt c b).bats.map bdR:=by
 unfold Zjt;split
 ·exact h
 ·simp[h]
theorem Zvw{rogue k:Int}{c:Co}(h:CoOk signs rogue k c)(hm:Ztt signs rogue k c m):CoOk signs rogue k (Ze1 c m):=by
 unfold Ze1;split
 ·have hd:=Ztk m.bat h.digs;rename_i hk;obtain⟨hn1,hn2⟩:=hm.2.2.2.1 hk;refine⟨hd,?_,?_,?_,?_,?_,?_⟩
  ·unfold Zjt;split
   ·exact h.few
   ·rename_i hn;have:=h.few;simp at hn ⊢;omega
  ·unfold Zjt;rw[if_neg hn1];refine⟨fun b hb=>?_,?_⟩
   ·rcases List.mem_append.1 hb with hb|hb
    ·exact h.bats.1 b hb
    ·rw[List.mem_singleton.1 hb];exact hn2
   ·show(c.digs++[bdR m.bat]).Nodup;unfold List.Nodup;rw[List.pairwise_append];refine⟨h.bats.2,List.pairwise_singleton _ _,fun a ha b hb e=>?_⟩;rw[List.mem_singleton.1 hb]at e;subst e;apply hn1;left
    rcases Int.lt_or_le (idxI (·==bdR m.bat) c.digs) 0 with hlt|hle
    ·exfalso;have:=Zj1 (·==bdR m.bat) c.digs;rw[decide_eq_false (by omega)]at this;have h2:=this.symm;rw[List.any_eq_false]at h2;exact h2 _ ha (by simp)
    ·exact hle
  all_goals unfold Zjt;split
  ·exact h.table
  ·exact h.table
  ·exact h.others
  ·exact h.others
  ·exact h.dag
  ·exact h.dag
  ·exact h.prov
  ·exact h.prov
 ·split
  ·rename_i hk;obtain⟨e1,e2⟩:=hm.1 hk;rw[if_pos e2];refine⟨h.digs,h.few,h.bats,(Zg0 e2).1,fun s hs=>?_,h.dag,h.prov⟩;obtain⟨_,_,_,q⟩:=Zeq e2
   rcases q with ⟨q,_⟩|⟨q,_⟩
   ·simp only[q]at hs;exact h.others s hs
   ·simp only[q]at hs
    rcases List.mem_append.1 hs with hs|hs
    ·exact h.others s hs
    ·rw[List.mem_singleton.1 hs];exact .inl e1
  ·split
   ·rename_i hk;obtain⟨e1,e2,e3,e4⟩:=hm.2.1 hk;obtain⟨q1,q2,q3⟩:=Zc5.1 h.table;refine⟨h.digs,h.few,h.bats,Zc5.2 ⟨by simp;omega,fun s hs=>?_,?_⟩,fun s hs=>?_,h.dag,h.prov⟩
    ·rcases List.mem_append.1 hs with hs|hs
     ·exact q2 s hs
     ·rw[List.mem_singleton.1 hs];exact e1
    ·unfold Uniq;rw[List.pairwise_append];refine⟨q3,List.pairwise_singleton _ _,fun a ha b hb=>?_⟩;rw[List.mem_singleton.1 hb];exact e3 a ha
    ·rcases List.mem_append.1 hs with hs|hs
     ·exact h.others s hs
     ·rw[List.mem_singleton.1 hs];exact .inr e4
   ·split
    ·rename_i hk;obtain⟨e1,e2⟩:=hm.2.2.1 hk;rw[if_neg (by simp[e1])];obtain⟨_,_,_,_,_,e⟩:=Zgh e1;refine⟨h.digs,h.few,h.bats,h.table,h.others,?_,fun x hx=>?_⟩
     ·simp only[e];exact Zzl e1
     ·simp only[e]at hx
      rcases List.mem_append.1 hx with hx|hx
      ·exact h.prov x hx
      ·rw[List.mem_singleton.1 hx];exact e2
    ·exact h
theorem Zvx{rogue k:Int}:∀{ms:List Msg},RecsOk signs rogue k ms→CoOk signs rogue k (coOf ms):=by
 intro ms h
 have:∀i,i≤ms.length→CoOk signs rogue k (coOf (ms.take i)):=by
  intro i
  induction i with
  |zero =>
   intro _;rw[List.take_zero];exact⟨rfl,by decide,⟨fun b hb=>by simp[coOf,co0]at hb,List.nodup_nil⟩,by decide,fun s hs=>by simp[coOf,co0]at hs,by decide,fun s hs=>by simp[coOf,co0]at hs⟩
  |succ i ih =>
   intro hi;have:=Zvw (ih (by omega)) (h i (by omega));rw[List.take_succ_eq_append_getElem (by omega),Zlg];exact this
 have h1:=this ms.length (Nat.le_refl _);rwa[List.take_length]at h1
structure Le (a b:Co):Prop where
 bats:a.bats <+: b.bats
 digs:a.digs <+: b.digs
 table:a.table <+: b.table
 dag:a.dag <+: b.dag
theorem Le.refl(a:Co):Le a a:=⟨List.prefix_refl _,List.prefix_refl _,List.prefix_refl _,List.prefix_refl _⟩
theorem Le.trans{a b c:Co}(h:Le a b)(k:Le b c):Le a c:=⟨h.bats.trans k.bats,h.digs.trans k.digs,h.table.trans k.table,h.dag.trans k.dag⟩
theorem Zpj(l:List Slot)(h:Hdr):l <+: (if Ze2 l h=0 then Zc4 l h else l):=by
 split
 ·rename_i hc;exact(Zg0 hc).2.2.2
 ·exact List.prefix_refl _
theorem Zlf(c:Co)(m:Msg):Le c (Ze1 c m):=by
 unfold Ze1;split
 ·unfold Zjt;split
  ·exact Le.refl _
  ·exact⟨List.prefix_append _ _,List.prefix_append _ _,List.prefix_refl _,List.prefix_refl _⟩
 ·split
  ·exact⟨List.prefix_refl _,List.prefix_refl _,Zpj _ _,List.prefix_refl _⟩
  ·split
   ·exact⟨List.prefix_refl _,List.prefix_refl _,List.prefix_append _ _,List.prefix_refl _⟩
   ·split
    ·split
     ·exact Le.refl _
     ·rename_i hn;have e:=(Zgh (Classical.not_not.1 hn)).2.2.2.2.2;exact⟨List.prefix_refl _,List.prefix_refl _,List.prefix_refl _,by rw[e];exact List.prefix_append _ _⟩
    ·exact Le.refl _
theorem Zvz(ms:List Msg)(c:Co):Le c (ms.foldl Ze1 c):=by
 induction ms generalizing c with
 |nil=>exact Le.refl _
 |cons m ms ih=>exact(Zlf c m).trans (ih _)
theorem Zvy{a b:List Msg}(h:a <+: b):Le (coOf a) (coOf b):=by
 obtain⟨t,rfl⟩:=h;unfold coOf;rw[List.foldl_append];exact Zvz t _
structure Tap (n:Nd) (ms:List Msg) (j:Nat):Prop where
 good:Good ms
 tl:n.tl=Zaz ms
 short:n.tl.length≤400000
 jl:j≤ms.length
 ty:n.ty=(Zaz (ms.take j)).length
theorem Ze7(ms:List Msg)(j:Nat):(Zaz (ms.take j)).length≤(Zaz ms).length:=by
 have:Zaz ms=Zaz (ms.take j)++Zaz (ms.drop j):=by rw[←Zdd,List.take_append_drop]
 rw[this,List.length_append];omega
theorem Tap.may(h:Tap n ms j):Zba n.tl n.ty=true:=by
 have:=Ze7 ms j;have h1:=h.short;unfold Zba;rw[h.ty];rw[h.tl]at h1⊢;simp;omega
theorem Zi0(h:Tap n ms j)(he:Zfg n m=0):recF m=0∧Tap (kept n m) (ms++[m]) j:=by
 have he0:appE n.tl n.ty m=0:=he;unfold Zfg appE at he;rw[if_pos h.may]at he;split at he
 ·rename_i q;exact absurd he q
 ·rename_i q;split at he
  ·cases he
  ·rename_i q2;have q0:=Classical.not_not.1 q;have e1:appL n.tl n.ty m=n.tl++appF m:=by unfold appL;rw[if_pos he0]
   have e2:appA n.tl n.ty m=n.ty:=by unfold appA;rw[if_pos he0]
   refine⟨q0,⟨fun x hx=>?_,?_,?_,?_,?_⟩⟩
   ·rcases List.mem_append.1 hx with hx|hx
    ·exact h.good x hx
    ·rw[List.mem_singleton.1 hx];exact q0
   ·show appL _ _ _=_;rw[e1,h.tl,Zmo]
   ·show(appL _ _ _).length≤_;rw[e1,List.length_append,Zih];omega
   ·have:=h.jl;simp;omega
   ·show appA _ _ _=_;rw[e2,h.ty,List.take_append_of_le_length h.jl]
theorem kno{a b:Int}{p:Prop}(h:(a==b)=false)(e:a=b):p:=by subst e;simp at h
def OutOk(k:Int)(table:List Slot)(m:Msg):Prop :=
 m.src=k∧(0≤m.dst∧m.dst≤3)∧(m.kind=2→m.hdr.author=k∧hF m.hdr=0∧Zcj m.hdr∈table)∧(m.kind=3→m.slt∈table)
structure NI (signs:List Sign) (rogue k:Int) (n:Nd) (ms:List Msg) (j:Nat):Prop where
 tap:Tap n ms j
 recs:RecsOk signs rogue k ms
 core:core n=coOf ms
 me:n.me=k
 kr:0≤k∧k≤3
 own:∀h,n.own=some h→h.author=k∧hF h=0∧n.mine=hD h∧Zcj h∈n.table
 voters:∀v∈n.voters,v=k∨∃h,n.own=some h∧sgn signs rogue v (Zcj h)
 once:n.voters.Nodup∧∀v∈n.voters,0≤v∧v≤3
 out:∀m∈n.out,OutOk k n.table m
 turn:0≤n.turn∧n.turn≤3
 down:n.up=false→j=ms.length
 last:∀s∈n.table,s.author=k→∃h,n.own=some h∧s.round≤h.round
section
variable {signs:List Sign} {rogue k:Int} {n:Nd} {ms:List Msg} {j:Nat}
theorem NI.co(h:NI signs rogue k n ms j):CoOk signs rogue k (coOf ms):=Zvx h.recs
theorem NI.table(h:NI signs rogue k n ms j):n.table=(coOf ms).table:=by rw[←h.core];rfl
theorem NI.dag(h:NI signs rogue k n ms j):n.dag=(coOf ms).dag:=by rw[←h.core];rfl
theorem NI.bats(h:NI signs rogue k n ms j):n.bats=(coOf ms).bats:=by rw[←h.core];rfl
theorem NI.digs(h:NI signs rogue k n ms j):n.digs=(coOf ms).digs:=by rw[←h.core];rfl
theorem OutOk.mono{k:Int}{t t':List Slot}(h:OutOk k t m)(ht:∀s∈t,s∈t'):OutOk k t' m :=
 ⟨h.1,h.2.1,fun e=>⟨(h.2.2.1 e).1,(h.2.2.1 e).2.1,ht _ (h.2.2.1 e).2.2⟩,fun e=>ht _ (h.2.2.2 e)⟩
theorem NI.step(h:NI signs rogue k n ms j)(he:Zfg n m=0)(hr:Ztt signs rogue k (coOf ms) m)(hup:n.up=true){n':Nd}(e1:n'.tl=(kept n m).tl)(e2:n'.ty=(kept n m).ty)(e3:Fl.core n'=Ze1 (Fl.core n) m)(e4:n'.me=n.me)(e7:n'.up=n.up)(e5:n'.own=n.own)(e6:n'.mine=n.mine)(e8:n'.voters=n.voters)(e9:n'.out=n.out)(e10:n'.turn=n.turn)(e11:∀s∈n'.table,s.author=k→s∈n.table):NI signs rogue k n' (ms++[m]) j:=by
 obtain⟨q1,q2⟩:=Zi0 h.tap he
 have hmem:∀s∈n.table,s∈n'.table:=fun s hs=>by
  have hle:=Zlf (Fl.core n) m;rw[←e3]at hle;exact hle.table.subset hs
 refine⟨⟨q2.good,by rw[e1];exact q2.tl,by rw[e1];exact q2.short,q2.jl,by rw[e2];exact q2.ty⟩,h.recs.snoc hr,by rw[e3,h.core,Zlg],by rw[e4];exact h.me,h.kr,?_,?_,by rw[e8];exact h.once,?_,by rw[e10];exact h.turn,?_,fun s hs ha=>by rw[e5];exact h.last s (e11 s hs ha) ha⟩
 ·intro x hx;rw[e5]at hx;obtain⟨p1,p2,p3,p4⟩:=h.own x hx;exact⟨p1,p2,by rw[e6];exact p3,hmem _ p4⟩
 ·rw[e8,e5];exact h.voters
 ·rw[e9];exact fun x hx=>(h.out x hx).mono hmem
 ·intro hd;rw[e7,hup]at hd;cases hd
theorem NI.send(h:NI signs rogue k n ms j){tw:Int}{m:Msg}(ht:0≤tw∧tw≤3)(h2:m.kind=2→m.hdr.author=k∧hF m.hdr=0∧Zcj m.hdr∈n.table)(h3:m.kind=3→m.slt∈n.table):NI signs rogue k (send n tw m) ms j:=by
 unfold Fl.send;split
 ·refine⟨⟨h.tap.good,h.tap.tl,h.tap.short,h.tap.jl,h.tap.ty⟩,h.recs,h.core,h.me,h.kr,h.own,h.voters,h.once,fun x hx=>?_,h.turn,h.down,h.last⟩
  rcases List.mem_append.1 hx with hx|hx
  ·exact h.out x hx
  ·rw[List.mem_singleton.1 hx];exact⟨h.me,ht,h2,h3⟩
 ·exact h
def Zr3(k:Int)(n:Nd)(m:Msg):Prop:=(m.kind=2→m.hdr.author=k∧hF m.hdr=0∧Zcj m.hdr∈n.table)∧(m.kind=3→m.slt∈n.table)
theorem Zsl(n:Nd)(tw:Int)(m:Msg):(Fl.send n tw m).table=n.table:=by unfold Fl.send;split<;>rfl
theorem Zr1{i:Int}:i∈all4↔0≤i∧i≤3:=by unfold all4;simp;omega
theorem NI.tells:∀(l:List Int) {n:Nd},(∀i∈l,0≤i∧i≤3)→NI signs rogue k n ms j→Zr3 k n m→NI signs rogue k (l.foldl (Zcm m) n) ms j
 |[],_,_,h,_=>h
 |i::l,n,hl,h,hs=>by
  rw[List.foldl_cons]
  have hi:=hl i (by simp)
  unfold Zcm
  split
  ·refine NI.tells l (fun x hx=>hl x (by simp[hx])) (h.send hi hs.1 hs.2) ?_
   unfold Zr3
   rw[Zsl]
   exact hs
  ·exact NI.tells l (fun x hx=>hl x (by simp[hx])) h hs
theorem NI.tell(h:NI signs rogue k n ms j){m:Msg}(hs:Zr3 k n m):NI signs rogue k (tell n m) ms j:=NI.tells all4 (fun i hi=>Zr1.1 hi) h hs
theorem NI.store(h:NI signs rogue k n ms j)(hup:n.up=true)(b:Bat):∃ms',ms <+: ms'∧NI signs rogue k (store n b true).1 ms' j:=by
 unfold Fl.store;split
 ·exact⟨ms,List.prefix_refl _,h⟩
 ·rename_i hn;rw[if_pos rfl];split
  ·rename_i he;refine⟨ms++[batM b],List.prefix_append _ _,h.step he ⟨kno rfl,kno rfl,kno rfl,fun _=>⟨?_,?_⟩,kno rfl,kno rfl⟩ hup rfl rfl ?_ rfl rfl rfl rfl rfl rfl rfl (fun s hs _=>hs)⟩
   ·have hd:(coOf ms).digs=n.digs:=h.digs.symm;have hb:(coOf ms).bats=n.bats:=h.bats.symm;rw[hd,hb];exact hn
   ·have:=(msgF_zero (Zfk (Zi0 h.tap he).1).1).2.2.2.1;simpa[Zd7,batM]using this
   unfold Ze1;rw[if_pos (show(batM b).kind=1 from rfl)];show _=Zjt _ b;unfold Zjt;rw[if_neg (show ¬(0≤idxI (fun x=>x==bdR b) (Fl.core n).digs∨(Fl.core n).bats.length=800) from hn)];rfl
  ·exact⟨ms,List.prefix_refl _,h⟩
theorem NI.insert(h:NI signs rogue k n ms j)(hup:n.up=true)(c:Crt)(hc:insE n.dag c=0→Zl4 signs rogue c=0):∃ms',ms <+: ms'∧NI signs rogue k (insert n c true).1 ms' j:=by
 unfold Fl.insert;split
 ·exact⟨ms,List.prefix_refl _,h⟩
 ·rename_i hn;have hn:=Classical.not_not.1 hn;rw[if_pos rfl];split
  ·rename_i he;refine⟨ms++[prfM c],List.prefix_append _ _,h.step he ⟨kno rfl,kno rfl,fun e=>⟨by rw[←h.dag];exact hn,hc hn⟩,kno rfl,kno rfl,kno rfl⟩ hup rfl rfl ?_ rfl rfl rfl rfl rfl rfl rfl (fun s hs _=>hs)⟩;unfold Ze1;rw[if_neg (kno rfl:¬(prfM c).kind=1),if_neg (kno rfl:¬(prfM c).kind=2),if_neg (kno rfl:¬(prfM c).kind=3),if_pos (show(prfM c).kind=4 from rfl),if_neg (show ¬insE (Fl.core n).dag (prfM c).crt≠0 from fun q=>q hn)];rfl
  ·exact⟨ms,List.prefix_refl _,h⟩
theorem NI.vote(h:NI signs rogue k n ms j)(hup:n.up=true)(x:Hdr)(hx:sgn signs rogue x.author (Zcj x))(hxk:x.author≠k) :
 ∃ms',ms <+: ms'∧NI signs rogue k (vote n x).1 ms' j∧((vote n x).2=true→Zcj x∈(vote n x).1.table∧Zcy n.table x=Zcj x∧hF x=0):=by
 unfold Fl.vote;split
 ·exact⟨ms,List.prefix_refl _,h,fun e=>(by cases e)⟩
 ·rename_i hn;have hn:=Classical.not_not.1 hn;obtain⟨q1,q2,q3,q4⟩:=Zeq hn;split
  ·rename_i hlen;split
   ·rename_i he
    have e:Zc4 n.table x=n.table++[Zcj x]∧n.table.length<400∧∀s∈n.table,¬(s.author=x.author∧s.round=x.round):=by
     rcases q4 with ⟨e,_⟩|q4
     ·rw[e]at hlen;omega
     ·exact q4
    refine⟨ms++[votM (Zcy n.table x)],List.prefix_append _ _,?_,fun _=>⟨(Zg0 hn).2.1,q3,q2⟩⟩;refine h.step he ⟨kno rfl,fun _=>?_,kno rfl,kno rfl,kno rfl,fun _=>by rw[q3];exact hxk⟩ hup rfl rfl ?_ rfl rfl rfl rfl rfl rfl rfl (fun s hs ha=>?_)
    ·rw[q3,←h.table];exact⟨Zrc q2,e.2.1,e.2.2,hx⟩
    ·unfold Ze1;rw[if_neg (kno rfl:¬(votM (Zcy n.table x)).kind=1),if_neg (kno rfl:¬(votM (Zcy n.table x)).kind=2),if_pos (show(votM (Zcy n.table x)).kind=3 from rfl),q3];show Co.mk _ _ (Zc4 n.table x) _=_;rw[e.1];rfl
    ·have hs:s∈Zc4 n.table x:=hs;rw[e.1]at hs
     rcases List.mem_append.1 hs with hs|hs
     ·exact hs
     ·rw[List.mem_singleton.1 hs]at ha;exact absurd ha hxk
   ·exact⟨ms,List.prefix_refl _,h,fun e=>(by cases e)⟩
  ·rename_i hlen
   have e:Zc4 n.table x=n.table:=by
    rcases q4 with ⟨e,_⟩|⟨e,_⟩
    ·exact e
    ·rw[e]at hlen;simp at hlen
   have hm:=(Zg0 hn).2.1;rw[e]at hm⊢;exact⟨ms,List.prefix_refl _,h,fun _=>⟨hm,q3,q2⟩⟩
theorem Zs2{h:Hdr}(e:Zqc l h=0):hF h=0:=by
 unfold Zqc at e;split at e
 ·rename_i q;exact absurd e q
 ·split at e
  ·rename_i q;exact absurd e q
  ·rename_i q;exact Classical.not_not.1 q
theorem NI.offer(hS:SI signs rogue)(h:NI signs rogue k n ms j)(hup:n.up=true)(x:Hdr):∃ms',ms <+: ms'∧NI signs rogue k (offer signs rogue n x) ms' j:=by
 unfold Fl.offer;split
 ·exact⟨ms,List.prefix_refl _,h⟩
 ·rename_i h1;split
  ·exact⟨ms,List.prefix_refl _,h⟩
  ·rename_i h2;split
   ·exact⟨ms,List.prefix_refl _,h⟩
   ·simp only[not_or,Bool.not_eq_false,ne_eq,Decidable.not_not]at h1 h2;have hv:=Zs2 h2.1;have hsg:=((Ziq hS).1 h1.2).2;rw[Zvg hv]at hsg;obtain⟨ms',p1,p2,p3⟩:=h.vote hup x hsg (by rw[←h.me];exact h1.1);split
    ·rename_i hok;obtain⟨r1,r2,r3⟩:=p3 hok;refine⟨ms',p1,p2.send (headF_zero hv).1 (kno rfl) (fun _=>?_)⟩;show Zcy n.table x∈_;rw[r2];exact r1
    ·exact⟨ms',p1,p2⟩
theorem Zpv{l:List Int}(h:l.Nodup)(h3:3≤l.length)(a b:Int):∃v∈l,v≠a∧v≠b:=by
 have h01:=List.pairwise_iff_getElem.1 h 0 1 (by omega) (by omega) (by omega);have h02:=List.pairwise_iff_getElem.1 h 0 2 (by omega) (by omega) (by omega);have h12:=List.pairwise_iff_getElem.1 h 1 2 (by omega) (by omega) (by omega)
 by_cases e0:l[0]=a∨l[0]=b
 ·by_cases e1:l[1]=a∨l[1]=b
  ·refine⟨l[2],List.getElem_mem _,?_,?_⟩<;>intro e2<;>rcases e0 with e0|e0<;>rcases e1 with e1|e1<;>first|exact h01 (e0.trans e1.symm)|exact h02 (e0.trans e2.symm)|exact h12 (e1.trans e2.symm)
  ·exact⟨l[1],List.getElem_mem _,fun e=>e1 (.inl e),fun e=>e1 (.inr e)⟩
 ·exact⟨l[0],List.getElem_mem _,fun e=>e0 (.inl e),fun e=>e0 (.inr e)⟩
theorem Zug{l:List Int}{v:Int}:v∈Zdh l↔v∈l:=by unfold Zdh;exact List.mem_mergeSort
theorem Zsx(hS:SI signs rogue){h:Hdr}{vs:List Int}(ha:h.author=k)(hk:∀v∈vs,v=k∨sgn signs rogue v (Zcj h))(hn:vs.Nodup)(h3:3≤vs.length):sgn signs rogue k (Zcj h):=by
 obtain⟨v,hv,h1,h2⟩:=Zpv hn h3 k rogue
 rcases hk v hv with e|e|e
 ·exact absurd e h1
 ·exact absurd e h2
 ·rcases hS.author _ e with q|q
  ·exact absurd (q.symm.trans ha) h1
  ·rw[show(Zcj h).author=k from ha]at q;exact q
theorem NI.addVoter(h:NI signs rogue k n ms j){x:Hdr}(ho:n.own=some x){v:Int}(hv:sgn signs rogue v (Zcj x))(hr:0≤v∧v≤3)(hn:v∉n.voters):NI signs rogue k {n with voters:=n.voters++[v] } ms j:=by
 refine⟨⟨h.tap.good,h.tap.tl,h.tap.short,h.tap.jl,h.tap.ty⟩,h.recs,h.core,h.me,h.kr,h.own,fun y hy=>?_,?_,h.out,h.turn,h.down,h.last⟩
 ·rcases List.mem_append.1 hy with hy|hy
  ·exact h.voters y hy
  ·rw[List.mem_singleton.1 hy];exact .inr ⟨x,ho,hv⟩
 ·refine⟨?_,fun y hy=>?_⟩
  ·show(n.voters++[v]).Nodup;unfold List.Nodup;rw[List.pairwise_append];refine⟨h.once.1,List.pairwise_singleton _ _,fun a ha b hb=>?_⟩;rw[List.mem_singleton.1 hb];exact fun e=>hn (e▸ha)
  ·rcases List.mem_append.1 hy with hy|hy
   ·exact h.once.2 y hy
   ·rw[List.mem_singleton.1 hy];exact hr
theorem NI.count(hS:SI signs rogue)(h:NI signs rogue k n ms j)(hup:n.up=true)(src:Int)(s:Slot):∃ms',ms <+: ms'∧NI signs rogue k (count signs rogue n src s) ms' j:=by
 unfold Fl.count;split
 ·exact⟨ms,List.prefix_refl _,h⟩
 ·rename_i x ho;obtain⟨o1,o2,o3,o4⟩:=h.own x ho;split
  ·exact⟨ms,List.prefix_refl _,h⟩
  ·rename_i h1;simp only[not_or,ne_eq,Decidable.not_not]at h1;split
   ·exact⟨ms,List.prefix_refl _,h⟩
   ·rename_i h2;simp only[not_or,Bool.not_eq_false]at h2
    have hs:s=Zcj x:=by
     obtain⟨a,r,d⟩:=s;simp only at h1;unfold Zcj;rw[h1.1,h1.2.1,h1.2.2,o3,h.me,o1]
    have hsg:=((Ziq hS).1 h2.2.2).2;rw[hs]at hsg;have hA:=h.addVoter ho hsg (Zmk.1 ((Ziq hS).1 h2.2.2).1).1 h2.2.1;split
    ·exact⟨ms,List.prefix_refl _,hA⟩
    ·rename_i h3
     have hall:∀v∈n.voters++[src],v=k∨sgn signs rogue v (Zcj x):=fun v hv=>by
      rcases hA.voters v hv with e|⟨y,e1,e2⟩
      ·exact .inl e
      ·rw[show({ n with voters:=n.voters++[src] }:Nd).own=n.own from rfl,ho]at e1;injection e1 with e1;subst e1;exact .inr e2
     have hk:=Zsx hS o1 hall hA.once.1 (by omega)
     obtain⟨ms',p1,p2⟩:=hA.insert hup ⟨x,Zdh (n.voters++[src])⟩ (fun he=>(Ziu hS).2 ⟨(Zgh he).2.1,fun v hv=>by
      show sgn signs rogue v (Zcj x)
      rcases List.mem_append.1 hv with hv|hv
      ·rcases hall v (Zug.1 hv)with e|e
       ·rw[e];exact hk
       ·exact e
      ·rw[List.mem_singleton.1 hv,show(Crt.mk x (Zdh (n.voters++[src]))).hdr.author=k from o1];exact hk⟩)
     split
     ·exact⟨ms',p1,p2.tell ⟨kno rfl,kno rfl⟩⟩
     ·exact⟨ms',p1,p2⟩
theorem Zkn(tw:Int)(n:Nd)(d:List UInt8):(sendB tw n d).table=n.table∧(sendB tw n d).own=n.own∧(sendB tw n d).voters=n.voters∧(sendB tw n d).bats=n.bats∧(sendB tw n d).digs=n.digs:=by
 unfold sendB;split
 ·split
  ·unfold Fl.send;split<;>exact⟨rfl,rfl,rfl,rfl,rfl⟩
  ·exact⟨rfl,rfl,rfl,rfl,rfl⟩
 ·exact⟨rfl,rfl,rfl,rfl,rfl⟩
theorem NI.sendB(h:NI signs rogue k n ms j){tw:Int}(ht:0≤tw∧tw≤3)(d:List UInt8):NI signs rogue k (sendB tw n d) ms j:=by
 unfold Fl.sendB;split
 ·split
  ·exact h.send ht (kno rfl) (kno rfl)
  ·exact h
 ·exact h
theorem NI.sendBs{tw:Int}(ht:0≤tw∧tw≤3):∀(ds:List (List UInt8)) {n:Nd},NI signs rogue k n ms j→NI signs rogue k (ds.foldl (Fl.sendB tw) n) ms j
 |[],_,h=>h
 |d::ds,_,h=>by rw[List.foldl_cons];exact NI.sendBs ht ds (h.sendB ht d)
theorem NI.serve(h:NI signs rogue k n ms j){tw:Int}(ht:0≤tw∧tw≤3)(round:Int):NI signs rogue k (serve n tw round) ms j:=by
 unfold Fl.serve;split
 ·exact h
 ·have:∀(l:List Crt) {n:Nd},NI signs rogue k n ms j→NI signs rogue k (l.foldl (Zg7 tw) n) ms j:=by
   intro l
   induction l with
   |nil=>exact fun h=>h
   |cons c l ih =>
    intro n h;rw[List.foldl_cons];exact ih ((NI.sendBs ht _ h).send ht (kno rfl) (kno rfl))
  exact this _ h
theorem NI.come1(hS:SI signs rogue)(h:NI signs rogue k n ms j)(hup:n.up=true){m:Msg}(hm:0≤m.src∧m.src≤3):∃ms',ms <+: ms'∧NI signs rogue k (come1 signs rogue n m) ms' j:=by
 unfold Fl.come1;split
 ·exact h.store hup _
 ·split
  ·exact h.offer hS hup _
  ·split
   ·exact h.count hS hup _ _
   ·split
    ·split
     ·rename_i hp;exact h.insert hup _ (fun _=>hp)
     ·exact⟨ms,List.prefix_refl _,h⟩
    ·split
     ·exact⟨ms,List.prefix_refl _,h.serve hm _⟩
     ·exact⟨ms,List.prefix_refl _,h⟩
end
end Fl
end Go.Proofs.YtinibgklgehdpaaGreatDoor
