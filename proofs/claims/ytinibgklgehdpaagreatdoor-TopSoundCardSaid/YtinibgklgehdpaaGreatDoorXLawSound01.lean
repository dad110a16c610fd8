/- A part of what the last text stands on. -/
import Derived.WalkKit
import Derived.ProofKit
import Derived.OpenShut
import Derived.IntWalk
import Derived.BigQuiet
import Derived.Deep.QuietTactic
import Derived.Outline
import Derived.Lib.QuietBelow
import Derived.Lib.Hide
import Derived.Deep.RegionHeld3
import Derived.Laws.OwnMore
import Derived.SizedLaws
import Derived.Deep.Slices
import Derived.Lib.ConvBytes
import Derived.Laws.BytesArg
import Derived.Shelf.Abstract
import Derived.Deep.DeepCutAuto
import Derived.Deep.CutBlock
import Derived.Lib.EndianBits
import Derived.Laws.BitsLemmas
import Derived.WalkSpells
import Derived.Deep.MidRow
import Derived.StringKeys
import Derived.Maps.OwnSet
import Derived.Maps.AppendAt
import Derived.Laws.Strings
import Derived.Shelf.SlSortCmp.WholeK
import Derived.Shelf.SlSortCmp.NoneTotal
import Derived.Sort.OwnSortedInts
import Derived.RangeFuncBox
import Derived.RangeFuncLeaves
import Derived.OwnWalkIn
import Derived.TacticsInMore
import Derived.LoopNIn
import Derived.LoopIn
import Derived.Shelf.Small.Bits
import Derived.Shelf.Strconv.Itoa0
import Derived.Shelf.Sort.Plain
import Derived.Shelf.Slices.Turned
import Derived.Ground.Names2Prog
import Derived.Shelf.Slices.SearchI
import Derived.Shelf.Slices.In.SortNone
import Derived.Shelf.SlGeneric
import Derived.Ground.SlsfProg
import Derived.OwnWalk
import Derived.Carry
import Derived.SevenTiedAt
import Derived.LaidMore
import Derived.Stop.Joined
import Derived.Test.YtinibgklgehdpaaGreatDoorK42
namespace Go.Proofs.YtinibgklgehdpaaGreatDoor
open Go.ChangeShapes Go.WideShapes Go.ChangeAt Go.RowKit Qa Qb Qc
set_option linter.all false
set_option maxHeartbeats 20000000
set_option maxRecDepth 100000
variable{P:Program}{w w':World}{ops:Array Oper}{rest:List Oper}{Q:Exit→Act→World→Prop}{K:Act→World→Prop}{v:Value}{cs:Array Value}{A:Option Addr}{h:View}{e:TypeId}{i j g sz bs:Nat}{m:Msg}{f:Fl.Ft}{n:Fl.Nd}{α:Type}{xs:List α}{enc:α→Value}{R:View→List Value→α→Prop}{ms:List Msg}{signs:List Sign}{l:List Crt}
theorem OwnVec.drew{b:Nat}(h:OwnVec enc e w b v xs):OwnVec enc e w.drew b v xs:=h.kept (Zad w)
section
variable {G:List Nat} {a b c w w':World}
theorem Chg.alloc(h:Chg G a b)(o:Obj):Chg G a (b.alloc o):=h.trans (.of_below (Zac b o) (Nat.le_refl _))
theorem Chg.frozen(h:Chg G a b)(k o:Nat)(hk:k<a.heap.size)(hn:k∉G):b.frozen? ⟨k,o,none⟩=a.frozen? ⟨k,o,none⟩:=World.frozen?_of_block (h.block k hk hn)
theorem OwnVec.chg{B:Nat}(h:OwnVec enc e a B v xs)(hc:Chg G a b)(hG:∀k,v.ownBlock=some k→k∉G):OwnVec enc e b B v xs:=by
 obtain⟨h1,h2⟩:=h.own;refine⟨h1,?_⟩
 rcases h2 with h2|⟨g,cap,cur,h3,h4,h5,h6⟩
 ·exact .inl h2
 ·refine .inr ⟨g,cap,cur,h3,h4,?_,h6⟩;have hlt:g<a.heap.size:=(Array.getElem?_eq_some_iff.1 h5).1;rw[hc.block g hlt (hG g (by rw[h3];rfl))];exact h5
end
theorem OwnVec.at{α:Type}{enc:α→Value}{e:TypeId}{w:World}{B g n c:Nat}{xs:List α}(h:OwnVec enc e w B (.slice (some ⟨g,0,none⟩) n c) xs)(i:Nat)(hi:i<xs.length):w.cell? ⟨g,i,none⟩=some (enc xs[i]):=by
 have:=h.own.cells (g:=g) rfl i (enc xs[i]) (by simp[hi]);rw[Zbs,Nat.zero_add]at this;exact this
namespace Fl
section
variable {T T':Nat×Nat→Prop} {o o' o2:Own} {w w' w2:World}
theorem Fr.drew(hl:Lim o w):Fr T o w o w.drew:=.of_below hl (Zad w)
variable {α:Type} {sz:Nat} {R:View→List Value→α→Prop} {e:TypeId} {v:Value} {xs:List α} {t:Nat×Nat}
theorem Row.data(hR:Mono R)(h:Row o t sz R e w v xs)(hbs:xs.length*bs≤140737488355328){o2:Own}(hv:VLe (Zas o w) (Zas o2 w))(hz:∀g,v.ownBlock=some g→o2 g=none):RSl sz R bs (Zas o2 w) v xs:=by
 obtain⟨css,h1,h2,h3⟩:=h.own
 have hlen:∀i (hi:i<css.length),css[i].length=sz:=fun i hi=>by
  obtain⟨cs,q1,q2,_⟩:=h3 i (by omega);rw[List.getElem?_eq_getElem hi]at q1;injection q1 with q1;rw[q1];exact q2
 rcases id h1.2 with ⟨rfl,h0⟩|⟨g,cap,cur,rfl,k2,k3,k4,k5,k6,k7⟩
 ·have:xs=[]:=List.eq_nil_of_length_eq_zero h0;subst this;exact⟨none,0,rfl,Nat.le_refl _,Nat.zero_le _,by simp,fun _=>rfl,fun h=>by simp at h⟩
 ·refine⟨_,cap,rfl,k4,k5,hbs,(fun h=>by cases h),fun hp=>⟨g,0,rfl,fun i hi=>?_⟩⟩;obtain⟨cs,q1,q2,q3⟩:=h3 i hi;refine⟨cs,q2,fun j hj=>?_,hR _ _ _ _ q3 hv⟩;have hf:=Zgv hlen q1 hj;have hj':cs[j]?=some (cs[j]'(by omega)):=List.getElem?_eq_getElem _;rw[hj'];have:=h1.cells (g:=g) rfl (i*sz+j) _ (hf.trans hj');rw[Zbs]at this;unfold Zas;rw[if_neg (by rw[hz g rfl];simp)];rwa[Nat.zero_add]at this⊢
end
end Fl
theorem Keeps.refl(w:World):Keeps w w:=fun _ _ _ _ h=>h
section
variable {P:Program} {ops:Array Oper} {Q:Exit→Act→World→Prop} {S:World→Prop}
theorem wpPlanK_skip{o:Oper}{q:Bool}{rest:List (Nat×Bool)}{a:Act}(hS:S w)(ho:ops[i]?=some o)(hw:Region.wanted o (yielded ops a.tmps)=false)(h:Zfe P ops Q S K rest (a.put o.dst undef) w):Zfe P ops Q S K ((i,q)::rest) a w:=by
 cases q with
 |true=>exact⟨o,undef,ho,.inr ⟨hw,rfl⟩,h⟩
 |false =>
  show wpOp _ _ _ _ _ _ _;unfold wpOp;simp only[ho,hw];exact⟨hS,fun _=>h⟩
end
def RHdr(h:View)(cs:List Value)(x:Hdr):Prop:=∃vb vp,cs=[.int .i64 x.author,.int .i64 x.round,vb,vp]∧RDigs h vb x.batches∧RDigs h vp x.parents
theorem RHdr.mono:Mono RHdr:=fun h h' cs x ⟨vb,vp,e,h1,h2⟩ hle=>⟨vb,vp,e,h1.mono RDig.mono hle,h2.mono RDig.mono hle⟩
theorem RCrt.zero(h:View):RCrt h [.int .i64 0,.int .i64 0,.slice none 0 0,.slice none 0 0,.slice none 0 0] zeroC:=⟨_,_,_,rfl,RDigs.nil _,RDigs.nil _,RVec.nil _ _ _⟩
theorem RCrts.of_own{b:Nat}{xs:List Crt}{bb:Nat}(h:OwnSl 5 (RFrom bb RCrt) 64 w b v xs)(hl:xs.length*88≤140737488355328):RCrts w.cell? v xs :=
 RSl.weak (fun h cs x hr=>RCrt.mono _ _ _ _ hr (View.from_le _ _)) (h.reads (RFrom.mono RCrt.mono) hl)
theorem RSlots.form{xs:List Slot}(hr:RSlots h v xs):∃A c,v=.slice A xs.length c:=by
 obtain⟨A,c,e,_⟩:=hr;exact⟨A,c,e⟩
theorem GrL.blk{v':Value}(h:GrL w w' v v'){t:TypeId}(hb:Blk w g t cs)(hne:some g≠v.ownBlock):Blk w' g t cs:=hb.grown h.gr hne
structure SkR (b:List UInt8) (at_:Nat) (s:RS):Prop where
 over:s.2=decide (b.length<at_)
 rest:s.2=false→s.1=b.drop at_
theorem SkR.start(b:List UInt8):SkR b 0 (b,false):=⟨by simp,fun _=>by simp⟩
theorem SkR.next{b:List UInt8}{a n:Nat}{s:RS}(h:SkR b a s):SkR b (a+n) (tkS n s):=by
 obtain⟨l,sh⟩:=s;obtain⟨h1,h2⟩:=h;simp only at h1 h2;unfold tkS;cases sh
 ·have h2:=h2 rfl;have h1:¬b.length<a:=by simpa using h1.symm
  subst h2;simp only[Bool.false_or,decide_eq_true_eq,List.length_drop];split
  ·exact⟨by simp;omega,fun h=>by cases h⟩
  ·refine⟨by simp;omega,fun _=>by simp[List.drop_drop]⟩
 ·have h1:b.length<a:=by simpa using h1.symm
  simp only[Bool.true_or,if_true];exact⟨by simp;omega,fun h=>by cases h⟩
theorem SkR.none{b:List UInt8}{a n:Nat}{s:RS}(h:SkR b a s)(ho:b.length<a+n):tkB n s=[]:=by
 obtain⟨l,sh⟩:=s;obtain⟨h1,h2⟩:=h;simp only at h1 h2;unfold tkB;rw[if_pos];cases sh
 ·rw[h2 rfl];have h1:¬b.length<a:=by simpa using h1.symm
  simp;omega
 ·rfl
theorem SkR.short{b:List UInt8}{a n:Nat}{s:RS}(h:SkR b a s):(tkS n s).2=decide (b.length<a+n):=h.next.over
theorem RBats.form{xs:List Bat}(hr:RBats h v xs):∃A c,v=.slice A xs.length c:=by
 obtain⟨A,c,e,_⟩:=hr;exact⟨A,c,e⟩
theorem RBats.len{xs:List Bat}(hr:RBats h v xs):xs.length*40≤140737488355328:=by
 obtain⟨_,_,_,_,_,h,_⟩:=hr;exact h
section
variable {P:Program} {ops:Array Oper} {Q:Exit→Act→World→Prop} {S:World→Prop} {C:List Nat}
theorem plt_skip{o:Oper}{p:PlT}{a:Act}(hS:S w)(ho:ops[i]?=some o)(hw:Region.wanted o (yielded ops a.tmps)=false)(h:p.wp P ops Q S C (a.put o.dst undef) w):PlT.wp P ops Q S C (.q i p) a w:=⟨o,undef,ho,.inr ⟨hw,rfl⟩,hS,h⟩
end
namespace Fl
theorem runE_zero{rogue:Int}{l:List At}(h:runE rogue l=0):inB rogue (-1) 3=true∧l.length≤3000∧∀a∈l,actE a=0:=by
 unfold runE at h;split at h
 ·cases h
 ·rename_i h1;split at h
  ·cases h
  ·refine⟨by simpa using h1,by omega,fun a ha=>?_⟩;split at h
   ·rename_i b hb;have:=List.find?_some hb;simp[h]at this
   ·rename_i hn;rw[List.find?_eq_none]at hn;simpa using hn a ha
theorem WI.run{rogue:Int}{l:List At}(h:runE rogue l=0):WI (run rogue l):=by
 obtain⟨h1,_,h3⟩:=runE_zero h;exact WI.fold l (fun a ha=>Zr2 (h3 a ha)) (WI.start h1)
theorem voters_most{vs:List Int}{a r:Int}{b p:List (List UInt8)}(h:Zg4 a r b p vs=0):∃e,∀v,0≤v→v≤3→v≠e→v∈vs:=by
 obtain⟨_,h3,_,hv⟩:=certF_zero h
 have hrange:∀v∈vs,0≤v∧v≤3:=fun v hv'=>by
  obtain⟨i,hi,rfl⟩:=List.getElem_of_mem hv';have:=Zsd hi (hv i hi);omega
 have hstep:∀i (hi:i+1<vs.length),vs[i]<vs[i+1]:=fun i hi=>(Zsd hi (hv (i+1) hi)).2.2 i rfl (by omega)
 have h01:vs[0]<vs[1]:=hstep 0 (by omega);have h12:vs[1]<vs[2]:=hstep 1 (by omega);have r0:=hrange vs[0] (List.getElem_mem _);have r2:=hrange vs[2] (List.getElem_mem _);have m0:vs[0]∈vs:=List.getElem_mem _;have m1:vs[1]∈vs:=List.getElem_mem _;have m2:vs[2]∈vs:=List.getElem_mem _;refine⟨6-vs[0]-vs[1]-vs[2],fun v h0 h3 hne=>?_⟩;have:v=vs[0]∨v=vs[1]∨v=vs[2]:=by omega
 rcases this with e|e|e<;>rw[e]<;>assumption
theorem find_prefix{l':List Crt}(h:l <+: l'){p:Crt→Bool}(hs:(l.find? p).isSome=true):(l'.find? p).isSome=true:=by
 obtain⟨t,rfl⟩:=h;rw[List.find?_append];cases hf:l.find? p with
 |none=>rw[hf]at hs;cases hs
 |some x=>rfl
theorem filterMap_len{α β:Type}(f g:α→Option β)(hfg:∀a,(f a).isSome=true→(g a).isSome=true):∀(l:List α),(l.filterMap f).length≤(l.filterMap g).length
 |[]=>Nat.le_refl _
 |a::l=>by
  have ih:=filterMap_len f g hfg l
  rw[List.filterMap_cons,List.filterMap_cons]
  cases h1:f a with
  |none =>
   cases h2:g a with
   |none=>exact ih
   |some y=>simp only[List.length_cons];omega
  |some x =>
   have:=hfg a (by rw[h1];rfl)
   cases h2:g a with
   |none=>rw[h2]at this;cases this
   |some y=>simp only[List.length_cons];omega
theorem atRound_mono{l':List Crt}(h:l <+: l')(r:Int):(Zbu l r).length≤(Zbu l' r).length:=by
 unfold Zbu;exact filterMap_len _ _ (fun a=>find_prefix h) _
theorem nextFrom_ge(l:List Crt):∀(n:Nat) (r:Int),r≤Zdy l n r
 |0,r=>Int.le_refl _
 |n+1,r=>by
  rw[Zdy]
  split
  ·have:=nextFrom_ge l n (r+1);omega
  ·exact Int.le_refl _
theorem nextFrom_mono{l l':List Crt}(h:l <+: l'):∀(n n':Nat) (r:Int),n≤n'→Zdy l n r≤Zdy l' n' r
 |0,n',r,_=>nextFrom_ge l' n' r
 |n+1,0,r,hn=>by omega
 |n+1,n'+1,r,hn=>by
  have hm:=atRound_mono h r
  rw[Zdy,Zdy]
  split
  ·rw[if_pos (by omega)]
   exact nextFrom_mono h n n' (r+1) (by omega)
  ·split
   ·have:=nextFrom_ge l' n' (r+1);omega
   ·exact Int.le_refl _
theorem rndV_mono{l':List Crt}(h:l <+: l')(h1:dagF hD cF l=0)(h2:dagF hD cF l'=0):rndV l≤rndV l':=by
 unfold rndV;rw[if_pos h1,if_pos h2];exact nextFrom_mono h _ _ _ (by have:=h.length_le;omega)
theorem node_come(h:WI f){tw k:Int}(ht:0≤tw∧tw≤3)(hk:0≤k∧k≤3)(m:Msg) :
 Zan (come f tw m) k=if k=tw∧(Zan f tw).up=true∧tw≠f.rogue then come1 f.signs f.rogue (Zan f tw) m else Zan f k:=by
 unfold come
 by_cases hc:(Zan f tw).up=false∨tw=f.rogue
 ·rw[if_pos hc,if_neg];rintro⟨_,h2,h3⟩
  rcases hc with hc|hc
  ·rw[hc]at h2;cases h2
  ·exact h3 hc
 ·rw[if_neg hc,Zdv h.len ht hk];simp only[not_or,Bool.not_eq_false]at hc
  by_cases e:k=tw
  ·rw[if_pos e,if_pos ⟨e,hc.1,hc.2⟩]
  ·rw[if_neg e,if_neg (fun q=>e q.1)]
theorem le_of_ni{rogue k:Int}{n':Nd}{ms':List Msg}{j':Nat}(h:NI signs rogue k n ms j)(h':NI signs rogue k n' ms' j')(hp:ms <+: ms'):Le (core n) (core n'):=by
 rw[h.core,h'.core];exact Zvy hp
theorem le_come(h:WI f){tw k:Int}(ht:0≤tw∧tw≤3)(hk:0≤k∧k≤3)(hm:0≤m.src∧m.src≤3):Le (core (Zan f k)) (core (Zan (come f tw m) k)):=by
 rw[node_come h ht hk];split
 ·rename_i e;obtain⟨ms,j,p1,_⟩:=h.node tw ht.1 ht.2;obtain⟨ms',q1,q2⟩:=p1.come1 h.si e.2.1 hm;rw[e.1];exact le_of_ni p1 q2 q1
 ·exact Le.refl _
theorem le_flow:∀(l:List Msg) {f:Ft},(∀m∈l,Zhe m)→WI f→∀{k:Int},0≤k∧k≤3→Le (core (Zan f k)) (core (Zan (l.foldl (fun g m=>come g m.dst m) f) k))
 |[],_,_,_,_,_=>Le.refl _
 |m::l,f,hl,h,k,hk=>by
  rw[List.foldl_cons]
  have hm:=hl m (by simp)
  exact(le_come h hm.2 hk hm.1).trans (le_flow l (fun x hx=>hl x (by simp[hx])) (h.come hm.2 hm.1) hk)
structure Grows (f g:Ft):Prop where
 node:∀k:Int,0≤k→k≤3→Le (core (Zan f k)) (core (Zan g k))
 signs:f.signs <+: g.signs
theorem Grows.refl(f:Ft):Grows f f:=⟨fun _ _ _=>Le.refl _,List.prefix_refl _⟩
theorem grows_set(h:WI f){i:Int}(hi:0≤i∧i≤3)(hn:Le (core (Zan f i)) (core n)):Grows f (Za1 f i n):=by
 refine⟨fun k h0 h3=>?_,List.prefix_refl _⟩;rw[Zdv h.len hi ⟨h0,h3⟩];split
 ·rename_i e;rw[e];exact hn
 ·exact Le.refl _
theorem grows_sync(h:WI f){i:Int}(hi:0≤i∧i≤3)(hr:i≠f.rogue):Grows f (sync f i):=by
 obtain⟨ms,j,p1,p2⟩:=h.node i hi.1 hi.2;have hme:=p1.me;have hS:=Zon hi hr (table:=(Zan f i).table) (by rw[p1.table];exact p1.co.table) (Zan f i).out f.signs f.away h.si (by rw[p1.table];exact p1.co.others) p1.out h.away;unfold sync;simp only;rw[hme];refine⟨fun k h0 h3=>?_,hS.grow⟩;have:Zan (Za1 f i (syncN (Zan f i))) k=Zan ⟨(Za1 f i (syncN (Zan f i))).rogue,(Za1 f i (syncN (Zan f i))).nodes,((Zan f i).out.foldl (Zc6 i) (f.signs,f.away)).1,((Zan f i).out.foldl (Zc6 i) (f.signs,f.away)).2,(Za1 f i (syncN (Zan f i))).codes⟩ k:=rfl;rw[←this,Zdv h.len hi ⟨h0,h3⟩];split
 ·rename_i e;rw[e];exact Le.refl _
 ·exact Le.refl _
theorem grows(h:WI f){a:At}(ha:AOk a)(hk:a.kind≠7):Grows f (doA f a):=by
 unfold doA;split
 ·have:Grows f (submit f a):=by
   unfold submit;simp only;split
   ·exact grows_set h ha.1 (Le.refl _)
   ·exact Grows.refl _
  exact⟨this.node,this.signs⟩
 ·split
  ·split
   ·exact Grows.refl _
   ·rename_i m hm;have hmem:=List.mem_of_getElem? hm;split
    ·have hE:WI {f with away:=f.away.eraseIdx (pick f a.pick) }:=h.awayed fun x hx=>h.away x (List.mem_of_mem_eraseIdx hx)
     exact⟨fun k h0 h3=>le_come hE (h.away m hmem).2 ⟨h0,h3⟩ (h.away m hmem).1,by rw[(Zdx _ _ _).2.1];exact List.prefix_refl _⟩
    ·exact⟨fun k _ _=>Le.refl _,List.prefix_refl _⟩
  ·split
   ·split
    ·exact Grows.refl _
    ·split
     ·exact⟨fun k _ _=>Le.refl _,List.prefix_refl _⟩
     ·exact Grows.refl _
   ·split
    ·exact⟨fun k h0 h3=>le_flow f.away h.away (h.awayed (l:=[]) fun x hx=>by cases hx) ⟨h0,h3⟩,by rw[(Zgu _ _).2.1];exact List.prefix_refl _⟩
    ·split
     ·split
      ·rename_i hd;exact⟨fun k h0 h3=>le_come h ha.1 ⟨h0,h3⟩ (msgF_zero (Zru hd.1)).1,by rw[(Zdx _ _ _).2.1];exact List.prefix_refl _⟩
      ·exact Grows.refl _
     ·split
      ·rename_i hr;unfold act;simp only;split
       ·exact grows_set h ha.1 (Le.refl _)
       ·split
        ·exact Grows.refl _
        ·rename_i hup;have hup:(Zan f a.node).up=true:=by simpa using hup
         split
         ·obtain⟨ms,j,p1,_⟩:=h.node a.node ha.1.1 ha.1.2;obtain⟨ms',q1,q2⟩:=p1.work hup;exact grows_set h ha.1 (le_of_ni p1 q2 q1)
         ·split
          ·exact grows_sync h ha.1 hr
          ·first|exact Grows.refl _|(rw[if_neg hk];exact Grows.refl _)
      ·exact Grows.refl _
theorem Grows.round{g:Ft}(h:WI f)(hg:WI g)(q:Grows f g){k:Int}(h0:0≤k)(h3:k≤3):rndV (Zan f k).dag≤rndV (Zan g k).dag:=by
 obtain⟨ms,j,p1,_⟩:=h.node k h0 h3;obtain⟨ms',j',p2,_⟩:=hg.node k h0 h3;exact rndV_mono (q.node k h0 h3).dag (by rw[p1.dag];exact p1.co.dag) (by rw[p2.dag];exact p2.co.dag)
structure Still (i:Int) (f g:Ft):Prop where
 node:Zan g i=Zan f i
 signs:∃t,g.signs=f.signs++t∧∀s∈t,s.node≠i
theorem Still.refl(i:Int)(f:Ft):Still i f f:=⟨rfl,[],by simp,fun s hs=>by cases hs⟩
theorem Still.trans{i:Int}{g k:Ft}(h:Still i f g)(q:Still i g k):Still i f k:=by
 obtain⟨t,h1,h2⟩:=h.signs;obtain⟨u,q1,q2⟩:=q.signs;refine⟨q.node.trans h.node,t++u,by rw[q1,h1,List.append_assoc],fun s hs=>?_⟩
 rcases List.mem_append.1 hs with hs|hs
 ·exact h2 s hs
 ·exact q2 s hs
theorem tell_voters(m:Msg):∀(l:List Int) (n:Nd),(l.foldl (Zcm m) n).voters=n.voters∧(l.foldl (Zcm m) n).mine=n.mine
 |[],n=>⟨rfl,rfl⟩
 |i::l,n=>by
  rw[List.foldl_cons]
  obtain⟨h1,h2⟩:=tell_voters m l (Zcm m n i)
  have:(Zcm m n i).voters=n.voters∧(Zcm m n i).mine=n.mine:=by
   unfold Zcm;split
   ·unfold send;split<;>exact⟨rfl,rfl⟩
   ·exact⟨rfl,rfl⟩
  exact⟨h1.trans this.1,h2.trans this.2⟩
theorem insert_up(n:Nd)(c:Crt)(w:Bool):(insert n c w).1.up=n.up:=by
 unfold insert kept;split<;>(try split)<;>(try split)<;>rfl
theorem vote_up(n:Nd)(h:Hdr):(vote n h).1.up=n.up:=by
 unfold vote kept;split<;>(try split)<;>(try split)<;>rfl
theorem sendBs_up(tw:Int):∀(ds:List (List UInt8)) (n:Nd),(ds.foldl (sendB tw) n).up=n.up
 |[],n=>rfl
 |d::ds,n=>by
  rw[List.foldl_cons,sendBs_up tw ds]
  unfold sendB
  split
  ·split
   ·exact(Zeo _ _ _).2.2.2.2.1
   ·rfl
  ·rfl
theorem serveCs_up(tw:Int):∀(l:List Crt) (n:Nd),(l.foldl (Zg7 tw) n).up=n.up
 |[],n=>rfl
 |c::l,n=>by
  rw[List.foldl_cons,serveCs_up tw l]
  unfold Zg7
  rw[(Zeo _ _ _).2.2.2.2.1,sendBs_up]
theorem come1_up(signs:List Sign)(rogue:Int)(n:Nd)(m:Msg):(come1 signs rogue n m).up=n.up:=by
 unfold come1;split
 ·exact Zrb _ _ _
 ·split
  ·unfold offer;split
   ·rfl
   ·split
    ·rfl
    ·split
     ·rfl
     ·split
      ·rw[(Zeo _ _ _).2.2.2.2.1,vote_up]
      ·exact vote_up _ _
  ·split
   ·unfold count;split
    ·rfl
    ·split
     ·rfl
     ·split
      ·rfl
      ·split
       ·rfl
       ·split
        ·unfold tell;rw[(Zim _ _ _).1,insert_up]
        ·rw[insert_up]
   ·split
    ·split
     ·exact insert_up _ _ _
     ·rfl
    ·split
     ·unfold serve;split
      ·rfl
      ·exact serveCs_up _ _ _
     ·rfl
def room(c:Co):Nat:=94*c.bats.length+257*c.table.length+257*c.dag.length
theorem room_step{rogue k:Int}{c:Co}(hr:Ztt signs rogue k c m)(hm:recF m=0):(appF m).length+room c≤room (Ze1 c m):=by
 obtain⟨h0,h1,h2,h3⟩:=Zfk hm;have hl:=msgB_len h0;have ha:=Zih m;obtain⟨_,_,hk,hb,_⟩:=msgF_zero h0;unfold Ze1;split
 ·rename_i e;obtain⟨q1,q2⟩:=hr.2.2.2.1 e;have:=batchB_len q2
  have hx:(msgB m).length=3+(Zfd m.bat.author m.bat.number m.bat.txs).length:=by
   unfold msgB Zdl;rw[if_pos e];simp;omega
  unfold Zjt;rw[if_neg q1];unfold room;simp only[List.length_append,List.length_singleton];omega
 ·split
  ·rename_i e;obtain⟨q1,q2⟩:=hr.1 e;have q3:=hr.2.2.2.2.1 e;rw[if_pos q2];obtain⟨_,_,_,q4⟩:=Zeq q2
   rcases q4 with ⟨_,q5⟩|⟨q5,_⟩
   ·have:=q3 _ q5 q1;exact absurd this (Int.lt_irrefl _)
   ·unfold room;simp only[q5,List.length_append,List.length_singleton];omega
  ·split
   ·unfold room;simp only[List.length_append,List.length_singleton];omega
   ·split
    ·rename_i e;obtain⟨q1,_⟩:=hr.2.2.1 e;rw[if_neg (by simp[q1])];obtain⟨_,_,_,_,_,q⟩:=Zgh q1;unfold room;simp only[q,List.length_append,List.length_singleton];omega
    ·omega
theorem room_all{rogue k:Int}(hr:RecsOk signs rogue k ms)(hg:Good ms):(Zaz ms).length≤room (coOf ms):=by
 have:∀i,i≤ms.length→(Zaz (ms.take i)).length≤room (coOf (ms.take i)):=by
  intro i
  induction i with
  |zero=>intro _;simp[Zaz]
  |succ i ih =>
   intro hi;rw[List.take_succ_eq_append_getElem (by omega),Zmo,Zlg,List.length_append];have:=room_step (hr i (by omega)) (hg ms[i] (List.getElem_mem (by omega)));have:=ih (by omega);omega
 have h1:=this ms.length (Nat.le_refl _);rwa[List.take_length]at h1
section
variable {signs:List Sign} {rogue k:Int} {n:Nd} {ms:List Msg} {j:Nat}
theorem NI.room(h:NI signs rogue k n ms j):n.tl.length≤280800:=by
 have hc:=h.co;have h1:=room_all h.recs h.tap.good;have h2:=hc.few;have h3:=(Zc5.1 hc.table).1;have h4:=(dagF_zero.1 hc.dag).1;rw[h.tap.tl];unfold Fl.room at h1;omega
theorem NI.keeps(h:NI signs rogue k n ms j)(hm:recF m=0):Zfg n m=0:=by
 have hr:=h.room;have hl:=msgB_len (Zfk hm).1;unfold Zfg appE;rw[if_pos h.tap.may,if_neg (by simp[hm]),if_neg (by omega)]
end
def roundA:List At:=[workA 0,Zc1 0,workA 1,Zc1 1,workA 2,Zc1 2,workA 3,Zc1 3,flowA]
def startsA:List At:=[Zbk 0,Zbk 1,Zbk 2,Zbk 3]
def calmA(rounds:Nat):List At:=startsA++(List.replicate rounds roundA).flatten
section
variable {k:Int} {n:Nd} {ms:List Msg} {j:Nat}
theorem SI.nobody(h:SI [] (-1)){v:Int}{s:Slot}:signed [] (-1) v s=false:=by
 cases e:signed [] (-1) v s with
 |false=>rfl
 |true =>
  obtain⟨h1,h2⟩:=(Ziq h).1 e;have:=(Zmk.1 h1).1
  rcases h2 with h2|h2
  ·simp at this;omega
  ·cases h2
theorem NI.noDag(hS:SI [] (-1))(h:NI [] (-1) k n ms j):n.dag=[]:=by
 cases hd:n.dag with
 |nil=>rfl
 |cons c l =>
  exfalso;have hp:=h.co.prov c (by rw[←h.dag,hd];simp);obtain⟨h1,h2⟩:=(Ziu hS).1 hp;obtain⟨e,he⟩:=voters_most h1
  obtain⟨v,v0,v3,hv⟩:∃v:Int,0≤v∧v≤3∧v≠e:=by
   by_cases e0:(0:Int)=e
   ·exact⟨1,by decide,by decide,by omega⟩
   ·exact⟨0,by decide,by decide,e0⟩
  rcases h2 v (List.mem_append_left _ (he v v0 v3 hv))with q|q
  ·omega
  ·cases q
theorem NI.ownTable(h:NI [] (-1) k n ms j):∀s∈n.table,s.author=k:=fun s hs=>by
 have ht:=h.co.table
 rw[←h.table]at ht
 have ho:=(Zc5.1 ht).2.1 s hs
 rcases h.co.others s (by rw[←h.table];exact hs)with q|q|q
 ·exact q
 ·have:=(slotF_zero ho).1;omega
 ·cases q
theorem NI.ownVoters(h:NI [] (-1) k n ms j):∀v∈n.voters,v=k:=fun v hv=>by
 rcases h.voters v hv with q|⟨_,_,q|q⟩
 ·exact q
 ·have:=h.once.2 v hv;omega
 ·cases q
theorem rndV_nil:rndV []=1:=by decide
theorem NI.comeOut(hS:SI [] (-1))(h:NI [] (-1) k n ms j)(m:Msg):(Fl.come1 [] (-1) n m).out=n.out∧(Fl.come1 [] (-1) n m).own=n.own:=by
 unfold Fl.come1;split
 ·unfold Fl.store kept put;split<;>(try split)<;>(try split)<;>exact⟨rfl,rfl⟩
 ·split
  ·unfold Fl.offer;rw[if_pos (.inr hS.nobody)];exact⟨rfl,rfl⟩
  ·split
   ·unfold Fl.count;split
    ·exact⟨rfl,rfl⟩
    ·rename_i x ho;split
     ·exact⟨rfl,ho.symm▸rfl⟩
     ·rw[if_pos (.inr (.inr hS.nobody))];exact⟨rfl,rfl⟩
   ·split
    ·split
     ·unfold Fl.insert kept;split<;>(try split)<;>(try split)<;>exact⟨rfl,rfl⟩
     ·exact⟨rfl,rfl⟩
    ·split
     ·unfold Fl.serve;split
      ·exact⟨rfl,rfl⟩
      ·have:Zrd n m.round=[]:=by unfold Zrd sortC;rw[h.noDag hS];simp
       rw[this];exact⟨rfl,rfl⟩
     ·exact⟨rfl,rfl⟩
theorem out_send(n:Nd)(tw:Int)(m:Msg):(∀x∈n.out,x∈(send n tw m).out)∧(send n tw m).out.length≤n.out.length+1∧(n.out.length<400→∃x∈(send n tw m).out,x.kind=m.kind):=by
 unfold Fl.send;split
 ·rename_i h;refine⟨fun x hx=>by simp[hx],by simp,fun _=>⟨{ m with src:=n.me,dst:=tw },by simp,rfl⟩⟩
 ·rename_i h;exact⟨fun x hx=>hx,by omega,fun q=>absurd q h⟩
theorem out_tells(m:Msg):∀(l:List Int) (n:Nd),(∀x∈n.out,x∈(l.foldl (Zcm m) n).out)∧(l.foldl (Zcm m) n).out.length≤n.out.length+l.length
 |[],n=>⟨fun x hx=>hx,by simp⟩
 |i::l,n=>by
  rw[List.foldl_cons]
  obtain⟨h1,h2⟩:=out_tells m l (Zcm m n i)
  have:(∀x∈n.out,x∈(Zcm m n i).out)∧(Zcm m n i).out.length≤n.out.length+1:=by
   unfold Zcm;split
   ·exact⟨(out_send n i m).1,(out_send n i m).2.1⟩
   ·exact⟨fun x hx=>hx,by omega⟩
  exact⟨fun x hx=>h1 x (this.1 x hx),by rw[List.length_cons];omega⟩
theorem out_sendBs(tw:Int):∀(ds:List (List UInt8)) (n:Nd),(∀x∈n.out,x∈(ds.foldl (sendB tw) n).out)∧(ds.foldl (sendB tw) n).out.length≤n.out.length+ds.length
 |[],n=>⟨fun x hx=>hx,by simp⟩
 |d::ds,n=>by
  rw[List.foldl_cons]
  obtain⟨h1,h2⟩:=out_sendBs tw ds (sendB tw n d)
  have:(∀x∈n.out,x∈(sendB tw n d).out)∧(sendB tw n d).out.length≤n.out.length+1:=by
   unfold sendB
   split
   ·split
    ·rename_i b _
     exact⟨(out_send n tw (batM b)).1,(out_send n tw (batM b)).2.1⟩
    ·exact⟨fun x hx=>hx,by omega⟩
   ·exact⟨fun x hx=>hx,by omega⟩
  exact⟨fun x hx=>h1 x (this.1 x hx),by rw[List.length_cons];omega⟩
theorem sendBs_keeps(tw:Int):∀(ds:List (List UInt8)) (n:Nd),(ds.foldl (sendB tw) n).voters=n.voters∧(ds.foldl (sendB tw) n).own=n.own
 |[],n=>⟨rfl,rfl⟩
 |d::ds,n=>by
  rw[List.foldl_cons]
  obtain⟨h1,h2⟩:=sendBs_keeps tw ds (sendB tw n d)
  obtain⟨_,q2,q3,_⟩:=Zkn tw n d
  exact⟨h1.trans q3,h2.trans q2⟩
theorem again_keeps(h:Hdr)(n:Nd)(tw:Int):(Zeg h n tw).voters=n.voters∧(Zeg h n tw).own=n.own∧(∀x∈n.out,x∈(Zeg h n tw).out)∧(Zeg h n tw).out.length≤n.out.length+(h.batches.length+1):=by
 unfold Zeg;split
 ·exact⟨rfl,rfl,fun x hx=>hx,by omega⟩
 ·obtain⟨a,b⟩:=sendBs_keeps tw h.batches n;obtain⟨c,d⟩:=out_sendBs tw h.batches n;obtain⟨_,e2,e3,_⟩:=Zeo (h.batches.foldl (sendB tw) n) tw (offM h);obtain⟨f1,f2,_⟩:=out_send (h.batches.foldl (sendB tw) n) tw (offM h);exact⟨e3.trans a,e2.trans b,fun x hx=>f1 x (c x hx),by omega⟩
theorem again_fold(h:Hdr):∀(l:List Int) (n:Nd),(l.foldl (Zeg h) n).voters=n.voters∧(l.foldl (Zeg h) n).own=n.own∧(∀x∈n.out,x∈(l.foldl (Zeg h) n).out)
 |[],n=>⟨rfl,rfl,fun x hx=>hx⟩
 |i::l,n=>by
  rw[List.foldl_cons]
  obtain⟨a,b,c⟩:=again_fold h l (Zeg h n i)
  obtain⟨p,q,r,_⟩:=again_keeps h n i
  exact⟨a.trans p,b.trans q,fun x hx=>c x (r x hx)⟩
theorem again_out{h:Hdr}(hb:h.batches.length≤3):∀(l:List Int) (n:Nd),(∃i∈l,i∉n.voters)→n.out.length+4*l.length≤400→∃x∈(l.foldl (Zeg h) n).out,x.kind=2
 |[],n,⟨i,hi,_⟩,_=>by cases hi
 |i::l,n,hex,hlen=>by
  rw[List.foldl_cons]
  by_cases hi:i∈n.voters
  ·have e:Zeg h n i=n:=by unfold Zeg;rw[if_pos hi]
   rw[e]
   refine again_out hb l n ?_ (by simp at hlen;omega)
   obtain⟨x,hx,hnx⟩:=hex
   rcases List.mem_cons.1 hx with q|q
   ·rw[q]at hnx;exact absurd hi hnx
   ·exact⟨x,q,hnx⟩
  ·obtain⟨c,d⟩:=out_sendBs i h.batches n
   have hlt:(h.batches.foldl (sendB i) n).out.length<400:=by simp at hlen;omega
   obtain⟨x,hx,hk⟩:=(out_send (h.batches.foldl (sendB i) n) i (offM h)).2.2 hlt
   have e:Zeg h n i=send (h.batches.foldl (sendB i) n) i (offM h):=by unfold Zeg;rw[if_neg hi]
   rw[←e]at hx
   exact⟨x,(again_fold h l _).2.2 x hx,hk⟩
end
section
variable {k:Int} {n:Nd} {ms:List Msg} {j:Nat}
theorem looseS_sub(n:Nd):∀(l:List (Bat×List UInt8)) (o:List (List UInt8)),∃t,l.foldl (Ze8 n) o=o++t∧t.Sublist (l.map (·.2))∧(o.length≤3→(o++t).length≤3)
 |[],o=>⟨[],by simp,List.Sublist.refl _,fun h=>by simpa using h⟩
 |p::l,o=>by
  rw[List.foldl_cons]
  unfold Ze8
  split
  ·rename_i hc
   obtain⟨t,h1,h2,h3⟩:=looseS_sub n l (o++[p.2])
   refine⟨p.2::t,?_,?_,fun h=>?_⟩
   ·have h1:=h1
    unfold Ze8 at h1
    rw[h1];simp
   ·rw[List.map_cons];exact h2.cons_cons _
   ·have:=h3 (by simp;omega)
    simp at this ⊢;omega
  ·obtain⟨t,h1,h2,h3⟩:=looseS_sub n l o
   refine⟨t,?_,?_,h3⟩
   ·have h1:=h1
    unfold Ze8 at h1
    exact h1
   ·rw[List.map_cons];exact h2.cons _
theorem digsF_nodup{l:List (List UInt8)}(h1:∀x∈l,x.length=32)(h2:l.Nodup):Ze0 l=0:=by
 unfold Ze0;split
 ·rename_i i hi;have hs:=List.find?_some hi;have hm:=List.mem_of_find?_eq_some hi;have hm:=List.mem_range.1 hm;exfalso;unfold Zi7 at hs;rw[List.getElem?_eq_getElem hm]at hs;simp only at hs;rw[if_pos (h1 _ (List.getElem_mem hm)),if_neg]at hs
  ·simp at hs
  ·rw[Bool.not_eq_true,List.any_eq_false];intro x hx;rw[List.mem_take_iff_getElem]at hx;obtain⟨j,hj,rfl⟩:=hx;have:=List.pairwise_iff_getElem.1 h2 j i (by omega) hm (by omega);simpa using this
 ·rfl
theorem bdR_len{b:Bat}(h:Zcq b.author b.number b.txs=0):(bdR b).length=32:=by
 have hl:=batchB_len h;unfold bdR Zto;rw[if_pos h];unfold batD tagR;rw[if_neg]
 ·exact Zra _
 ·simp[Zdr];omega
theorem loose_ok{rogue:Int}(h:NI signs rogue k n ms j):(Zxk n).length≤3∧Ze0 (Zxk n)=0:=by
 obtain⟨t,e,hsub,hlen⟩:=looseS_sub n (n.bats.zip n.digs) [];have e:Zxk n=t:=by unfold Zxk;rw[e];rfl
 have hz:(n.bats.zip n.digs).map (·.2)=n.digs:=by
  have hd:n.digs=n.bats.map bdR:=by rw[h.digs,h.bats];exact h.co.digs
  rw[List.map_snd_zip];rw[hd];simp
 rw[hz]at hsub;rw[e];refine⟨by simpa using hlen (by simp),digsF_nodup (fun x hx=>?_) ?_⟩
 ·have hx:=hsub.subset hx;rw[h.digs,h.co.digs]at hx;obtain⟨b,hb,rfl⟩:=List.mem_map.1 hx;exact bdR_len (h.co.bats.1 b hb)
 ·have:=h.co.bats.2;rw[←h.digs]at this;exact this.sublist hsub
theorem work1_own(n:Nd):(Fl.work1 n).own=n.own∧(Fl.work1 n).dag=n.dag∧(Fl.work1 n).voters=n.voters∧(Fl.work1 n).out.length≤n.out.length+4:=by
 have hs:(store n (Zh1 n) true).1.own=n.own∧(store n (Zh1 n) true).1.dag=n.dag∧(store n (Zh1 n) true).1.voters=n.voters∧(store n (Zh1 n) true).1.out=n.out:=by
  unfold Fl.store kept put;split<;>(try split)<;>(try split)<;>exact⟨rfl,rfl,rfl,rfl⟩
 unfold Fl.work1;split
 ·generalize (store n (Zh1 n) true).1=q at hs⊢;unfold tell;obtain⟨a1,a2,a3,a4,a5⟩:=Zim (batM (Zh1 n)) all4 {q with nx:=Zg8 n.nx n.txs n.me,txs:=Zdj n.nx n.txs n.me };obtain⟨b1,_⟩:=tell_voters (batM (Zh1 n)) all4 {q with nx:=Zg8 n.nx n.txs n.me,txs:=Zdj n.nx n.txs n.me };obtain⟨_,c2⟩:=out_tells (batM (Zh1 n)) all4 {q with nx:=Zg8 n.nx n.txs n.me,txs:=Zdj n.nx n.txs n.me };refine⟨a3.trans hs.1,a2.trans hs.2.1,b1.trans hs.2.2.1,?_⟩;refine Nat.le_trans c2 ?_;show q.out.length+4≤_;rw[hs.2.2.2];omega
 ·split
  ·exact⟨hs.1,hs.2.1,hs.2.2.1,by rw[hs.2.2.2];omega⟩
  ·exact⟨rfl,rfl,rfl,by omega⟩
theorem propose_own(hS:SI [] (-1))(h:NI [] (-1) k n ms j)(ho:n.own=none):(propose n 1).own≠none:=by
 have ht:n.table=[]:=by
  cases hd:n.table with
  |nil=>rfl
  |cons s l =>
   have hs:s∈n.table:=by rw[hd];simp
   obtain⟨x,e,_⟩:=h.last s hs (h.ownTable s hs);rw[ho]at e;cases e
 have hl:=loose_ok h
 have hv:hF (Zd1 n 1)=0:=by
  have e1:(Zd1 n 1).parents=[]:=by unfold Zd1;simp
  have e2:(Zd1 n 1).author=k:=h.me;have e3:(Zd1 n 1).round=1:=rfl;have e4:(Zd1 n 1).batches=Zxk n:=rfl;unfold hF Zb3;rw[e1,e2,e3,e4,Zbi.2 h.kr,if_pos (by decide),if_neg (by simp;omega),if_neg (by rw[hl.2];decide),if_neg (by decide),if_neg (by decide)]
 have hc:Ze2 n.table (Zd1 n 1)=0:=by
  rw[ht];unfold Ze2;rw[if_neg (by decide),if_neg (by rw[hv];decide)];have hn:Zb1 [] (Zd1 n 1).author (Zd1 n 1).round= -1:=rfl;rw[hn];rfl
 have hr:recF (offM (Zd1 n 1))=0:=by
  have hm:msgF (offM (Zd1 n 1))=0:=by
   unfold msgF
   have e1:Zd7 (offM (Zd1 n 1))=0:=by
    unfold Zd7;rw[if_neg (kno rfl:¬(offM (Zd1 n 1)).kind=1),if_pos (show(offM (Zd1 n 1)).kind=2 from rfl)];exact hv
   have e2:Zk5 (offM (Zd1 n 1))=false:=by
    unfold Zk5;simp[offM,msg0,Zlr,bat0,Zkh,slt0,Zlc,crt0,hdr0,Zec]
   rw[e1,e2];rfl
  unfold recF;rw[hm];simp[offM,msg0]
 have hk:=h.keeps hr;unfold Fl.propose;rw[if_neg (by simp[hc,hk])];unfold tell;rw[(Zim _ _ _).2.2.1];intro e;cases e
theorem work_own(hS:SI [] (-1))(h:NI [] (-1) k n ms j)(hup:n.up=true):(Fl.work n).own≠none:=by
 obtain⟨m1,a1,a2⟩:=h.work1 hup;have hd:=a2.noDag hS;unfold Fl.work work3;rw[hd,rndV_nil,(Zeo _ _ _).2.1];show(work2 (Fl.work1 n) 1).own≠none;unfold work2;split
 ·rename_i ho;exact propose_own hS a2 ho
 ·rename_i x ho;obtain⟨_,hv,_,_⟩:=a2.own x ho;rw[if_neg (by have:=(headF_zero hv).2.1;omega)];split
  ·unfold again;rw[ho];simp only;rw[(again_fold x all4 (Fl.work1 n)).2.1,ho];intro e;cases e
  ·rw[ho];intro e;cases e
theorem work_out(hS:SI [] (-1))(h:NI [] (-1) k n ms j)(hup:n.up=true)(ho:n.own≠none)(hl:n.out.length≤300):∃x∈(Fl.work n).out,x.kind=2:=by
 obtain⟨m1,a1,a2⟩:=h.work1 hup;have hd:=a2.noDag hS;obtain⟨w1,w2,w3,w4⟩:=work1_own n;unfold Fl.work work3;rw[hd,rndV_nil];cases hx:n.own with
 |none=>exact absurd hx ho
 |some x =>
  rw[hx]at w1;obtain⟨_,hv,_,_⟩:=a2.own x w1;have hb:=(headF_zero hv).2.2.1
  have e:work2 (Fl.work1 n) 1=again (Fl.work1 n):=by
   unfold work2;rw[w1];simp only;rw[if_neg (by have:=(headF_zero hv).2.1;omega),if_pos];unfold Zd5;rw[hd];rfl
  obtain⟨y,hy,hyk⟩:∃y∈(again (Fl.work1 n)).out,y.kind=2:=by
   unfold again;rw[w1];simp only;refine again_out hb all4 _ ?_ (by simp[all4];omega)
   by_cases e0:k=0
   ·exact⟨1,by decide,fun hm=>by have:=a2.ownVoters 1 hm;omega⟩
   ·exact⟨0,by decide,fun hm=>by have:=a2.ownVoters 0 hm;omega⟩
  rw[e];refine⟨y,?_,hyk⟩;exact(out_send {again (Fl.work1 n)with turn:=Zf5 (again (Fl.work1 n)).me (again (Fl.work1 n)).turn } _ _).1 y hy
end
theorem sync_signs{k:Int}(hk:0≤k∧k≤3)(hr:k≠ -1){table:List Slot}(ht:Zdb table=0) :
 ∀(out:List Msg) (signs:List Sign) (away:List Msg),SI signs (-1)→(∀s∈table,s.author=k∨sgn signs (-1) s.author s)→(∀m∈out,OutOk k table m)→(∀m∈away,Zhe m)→(∃m∈out,m.kind=2)→(out.foldl (Zc6 k) (signs,away)).1≠[]
 |[],_,_,_,_,_,_,⟨m,hm,_⟩=>by cases hm
 |m::out,signs,away,hS,hT,ho,ha,hex=>by
  have h1:=Zon hk hr ht [m] signs away hS hT (fun x hx=>ho x (by rw[List.mem_singleton.1 hx];simp)) ha
  rw[List.foldl_cons]
  have e1:[m].foldl (Zc6 k) (signs,away)=Zc6 k (signs,away) m:=rfl
  rw[e1]at h1
  by_cases hm:m.kind=2
  ·have h2:=Zon hk hr ht out (Zc6 k (signs,away) m).1 (Zc6 k (signs,away) m).2 h1.si (fun s hs=>(hT s hs).imp id (Zgr fun x hx=>h1.grow.subset hx)) (fun x hx=>ho x (by simp[hx])) h1.away
   intro e
   have:(Zc6 k (signs,away) m).1 <+: []:=by rw[←e];exact h2.grow
   have:(Zc6 k (signs,away) m).1=[]:=List.prefix_nil.1 this
   obtain⟨_,_,q,_⟩:=ho m (by simp)
   obtain⟨q1,q2,q3⟩:=q hm
   unfold Zc6 Zml at this
   rw[if_pos hm]at this
   simp only at this
   have e2:(⟨m.hdr.author,m.hdr.round,hdR m.hdr⟩:Slot)=Zcj m.hdr:=by rw[Zvg q2];rfl
   rw[e2]at this
   have hadd:=hS.add (s:=⟨k,Zcj m.hdr⟩) (Zmk.2 ⟨hk,Zrc q2⟩) hr (.inl q1)
   have:=(hadd.2.1 ⟨k,Zcj m.hdr⟩).2 (.inr rfl)
   rw[‹addL signs _=[]›]at this
   cases this
  ·refine sync_signs hk hr ht out _ _ h1.si (fun s hs=>(hT s hs).imp id (Zgr fun x hx=>h1.grow.subset hx)) (fun x hx=>ho x (by simp[hx])) h1.away ?_
   obtain⟨x,hx,hxk⟩:=hex
   rcases List.mem_cons.1 hx with q|q
   ·rw[q]at hxk;exact absurd hxk hm
   ·exact⟨x,q,hxk⟩
theorem prefix_nil{a b:List Sign}(h:a <+: b)(hb:b=[]):a=[]:=by rw[hb]at h;exact List.prefix_nil.1 h
theorem grows_fold:∀(l:List At) {f:Ft},(∀a∈l,AOk a∧a.kind≠7)→WI f→Grows f (l.foldl doA f)
 |[],f,_,_=>Grows.refl f
 |a::l,f,hl,h=>by
  rw[List.foldl_cons]
  obtain⟨h1,h2⟩:=hl a (by simp)
  have g:=grows h h1 h2
  have g2:=grows_fold l (fun x hx=>hl x (by simp[hx])) (h.doA h1)
  exact⟨fun k a b=>(g.node k a b).trans (g2.node k a b),g.signs.trans g2.signs⟩
theorem wi_fold(l:List At)(hl:∀a∈l,AOk a∧a.kind≠7)(h:WI f):WI (l.foldl doA f):=WI.fold l (fun a ha=>(hl a ha).1) h
theorem rogue_fold:∀(l:List At) (f:Ft),(l.foldl doA f).rogue=f.rogue
 |[],f=>rfl
 |a::l,f=>by rw[List.foldl_cons,rogue_fold l,Zgi]
structure Waits (k:Int) (f g:Ft):Prop where
 up:(Zan f k).up=true→(Zan g k).up=true
 own:(Zan f k).own≠none→(Zan g k).own≠none
 out:(Zan g k).out=(Zan f k).out
theorem Waits.refl(k:Int)(f:Ft):Waits k f f:=⟨id,id,rfl⟩
theorem Waits.trans{k:Int}{g h:Ft}(a:Waits k f g)(b:Waits k g h):Waits k f h:=⟨fun q=>b.up (a.up q),fun q=>b.own (a.own q),b.out.trans a.out⟩
theorem waits_come(h:WI f)(hr:f.rogue= -1)(hs:f.signs=[]){tw k:Int}(ht:0≤tw∧tw≤3)(hk:0≤k∧k≤3)(m:Msg):Waits k f (come f tw m):=by
 have hn:=node_come h ht hk m
 by_cases c:k=tw∧(Zan f tw).up=true∧tw≠f.rogue
 ·rw[if_pos c]at hn;obtain⟨ms,j,p,_⟩:=h.node tw ht.1 ht.2;have hS:=h.si;rw[hr,hs]at p hS;obtain⟨q1,q2⟩:=p.comeOut hS m;rw[hr,hs]at hn;refine⟨fun _=>?_,fun q=>?_,?_⟩
  ·rw[hn,come1_up];exact c.2.1
  ·rw[hn,q2,←c.1];exact q
  ·rw[hn,q1,c.1]
 ·rw[if_neg c]at hn;exact⟨fun q=>by rw[hn];exact q,fun q=>by rw[hn];exact q,by rw[hn]⟩
theorem waits_flow:∀(l:List Msg) {f:Ft},(∀m∈l,Zhe m)→WI f→f.rogue= -1→f.signs=[]→∀{k:Int},0≤k∧k≤3→Waits k f (l.foldl (fun g m=>come g m.dst m) f)
 |[],f,_,_,_,_,k,_=>Waits.refl k f
 |m::l,f,hl,h,hr,hs,k,hk=>by
  rw[List.foldl_cons]
  have hm:=hl m (by simp)
  obtain⟨c1,c2,_,_⟩:=Zdx f m.dst m
  exact(waits_come h hr hs hm.2 hk m).trans (waits_flow l (fun x hx=>hl x (by simp[hx])) (h.come hm.2 hm.1) (c1.trans hr) (c2.trans hs) hk)
theorem waits_set(h:WI f){i k:Int}(hi:0≤i∧i≤3)(hk:0≤k∧k≤3)(hne:k≠i)(n:Nd):Waits k f (Za1 f i n):=by
 have:=Zdv h.len hi hk n;rw[if_neg hne]at this;exact⟨fun q=>by rw[this];exact q,fun q=>by rw[this];exact q,by rw[this]⟩
theorem waits_other(h:WI f)(hr:f.rogue= -1)(hs:f.signs=[]){k:Int}(hk:0≤k∧k≤3){i:Int}(hi:0≤i∧i≤3)(hne:k≠i):Waits k f (doA f (workA i))∧Waits k f (doA f (Zc1 i)):=by
 have hri:i≠f.rogue:=by omega
 refine⟨?_,?_⟩
 ·rw[Zqt (.inl rfl) hri];unfold act;simp only;rw[if_neg (kno rfl:¬(workA i).kind=8)];split
  ·exact Waits.refl k f
  ·rw[if_pos (show(workA i).kind=2 from rfl)];exact waits_set h hi hk hne _
 ·rw[Zqt (.inr (.inl rfl)) hri];unfold act;simp only;rw[if_neg (kno rfl:¬(Zc1 i).kind=8)];split
  ·exact Waits.refl k f
  ·rw[if_neg (kno rfl:¬(Zc1 i).kind=2),if_pos (show(Zc1 i).kind=3 from rfl)];have:=waits_set h hi hk hne (syncN (Zan f i));exact⟨this.up,this.own,this.out⟩
theorem doA_flow(f:Ft):doA f flowA=f.away.foldl (fun g m=>come g m.dst m) {f with away:=[] }:=by
 unfold doA;rw[if_neg (kno rfl:¬flowA.kind=1),if_neg (show ¬(flowA.kind=4∨flowA.kind=5) from fun e=>e.elim (kno rfl) (kno rfl)),if_neg (kno rfl:¬flowA.kind=6),if_pos (show flowA.kind=10 from rfl)]
theorem waits_flowA(h:WI f)(hr:f.rogue= -1)(hs:f.signs=[]){k:Int}(hk:0≤k∧k≤3):Waits k f (doA f flowA):=by
 rw[doA_flow];have:=waits_flow f.away (f:={ f with away:=[] }) h.away (h.awayed (l:=[]) fun x hx=>by cases hx) hr hs hk;exact⟨this.up,this.own,this.out⟩
theorem workA_ok{i:Int}(hi:0≤i∧i≤3):AOk (workA i)∧(workA i).kind≠7:=⟨⟨hi,Int.le_refl _⟩,kno rfl⟩
theorem syncA_ok{i:Int}(hi:0≤i∧i≤3):AOk (Zc1 i)∧(Zc1 i).kind≠7:=⟨⟨hi,Int.le_refl _⟩,kno rfl⟩
theorem startA_ok{i:Int}(hi:0≤i∧i≤3):AOk (Zbk i)∧(Zbk i).kind≠7:=⟨⟨hi,Int.le_refl _⟩,kno rfl⟩
theorem flowA_ok:AOk flowA∧flowA.kind≠7:=⟨⟨by decide,Int.le_refl _⟩,kno rfl⟩
def restA:List At:=[workA 1,Zc1 1,workA 2,Zc1 2,workA 3,Zc1 3,flowA]
theorem restA_ok:∀a∈restA,AOk a∧a.kind≠7:=by
 intro a ha;simp only[restA,List.mem_cons,List.not_mem_nil,or_false]at ha
 rcases ha with rfl|rfl|rfl|rfl|rfl|rfl|rfl
 ·exact workA_ok (by decide)
 ·exact syncA_ok (by decide)
 ·exact workA_ok (by decide)
 ·exact syncA_ok (by decide)
 ·exact workA_ok (by decide)
 ·exact syncA_ok (by decide)
 ·exact flowA_ok
theorem waits_fold:∀(l:List At),(∀a∈l,a∈restA)→∀{f:Ft},WI f→f.rogue= -1→(l.foldl doA f).signs=[]→Waits 0 f (l.foldl doA f)
 |[],_,f,_,_,_=>Waits.refl 0 f
 |a::l,hl,f,h,hr,hs=>by
  rw[List.foldl_cons]at hs⊢
  have hok:=restA_ok a (hl a (by simp))
  have hg:=grows h hok.1 hok.2
  have hW:=h.doA hok.1
  have hg2:=grows_fold l (fun x hx=>restA_ok x (hl x (by simp[hx]))) hW
  have hs1:=prefix_nil hg2.signs hs
  have hs0:=prefix_nil hg.signs hs1
  refine Waits.trans ?_ (waits_fold l (fun x hx=>hl x (by simp[hx])) hW (by rw[Zgi];exact hr) hs)
  have ha:=hl a (by simp)
  simp only[restA,List.mem_cons,List.not_mem_nil,or_false]at ha
  rcases ha with rfl|rfl|rfl|rfl|rfl|rfl|rfl
  ·exact(waits_other h hr hs0 (by decide) (by decide) (by decide)).1
  ·exact(waits_other h hr hs0 (by decide) (by decide) (by decide)).2
  ·exact(waits_other h hr hs0 (by decide) (by decide) (by decide)).1
  ·exact(waits_other h hr hs0 (by decide) (by decide) (by decide)).2
  ·exact(waits_other h hr hs0 (by decide) (by decide) (by decide)).1
  ·exact(waits_other h hr hs0 (by decide) (by decide) (by decide)).2
  ·exact waits_flowA h hr hs0 (by decide)
theorem start_up(h:WI f)(hr:f.rogue= -1):(Zan (doA f (Zbk 0)) 0).up=true:=by
 rw[Zmr h (by decide) (by omega),Zev h.len (by decide)]
theorem start_other(h:WI f)(hr:f.rogue= -1){i:Int}(hi:0≤i∧i≤3)(h0:i≠0)(hup:(Zan f 0).up=true):(Zan (doA f (Zbk i)) 0).up=true:=by
 rw[Zmr h hi (by omega),Zdv h.len hi (by decide),if_neg (fun e=>h0 e.symm)];exact hup
theorem work_sync(h:WI f)(hr:f.rogue= -1)(hup:(Zan f 0).up=true)(hs:(doA (doA f (workA 0)) (Zc1 0)).signs=[]) :
 (Zan (doA (doA f (workA 0)) (Zc1 0)) 0).up=true∧(Zan (doA (doA f (workA 0)) (Zc1 0)) 0).own≠none∧(Zan (doA (doA f (workA 0)) (Zc1 0)) 0).out=[]∧¬((Zan f 0).own≠none∧(Zan f 0).out.length≤300):=by
 have hW1:=h.doA (a:=workA 0) (workA_ok (by decide)).1;have hr1:(doA f (workA 0)).rogue= -1:=by rw[Zgi];exact hr
 have g1:=grows h (a:=workA 0) (workA_ok (by decide)).1 (workA_ok (by decide)).2;have g2:=grows hW1 (a:=Zc1 0) (syncA_ok (by decide)).1 (syncA_ok (by decide)).2;have hs1:=prefix_nil g2.signs hs;have hs0:=prefix_nil g1.signs hs1
 have e1:doA f (workA 0)=Za1 f 0 (work (Zan f 0)):=by
  rw[Zqt (.inl rfl) (show(0:Int)≠f.rogue by omega)];unfold act;simp only;rw[if_neg (kno rfl:¬(workA 0).kind=8),if_neg (show ¬(Zan f (workA 0).node).up=false by rw[show(workA 0).node=0 from rfl,hup];decide),if_pos (show(workA 0).kind=2 from rfl)];rfl
 have n1:Zan (doA f (workA 0)) 0=work (Zan f 0):=by rw[e1];exact Zev h.len (by decide) _
 obtain⟨ms,j,p,_⟩:=h.node 0 (by decide) (by decide);have hS:=h.si;rw[hr,hs0]at p hS
 have hwup:(work (Zan f 0)).up=true:=by
  obtain⟨m1,a1,a2⟩:=p.work1 hup;unfold work work3 work2;rw[(Zeo _ _ _).2.2.2.2.1];have hw1:(work1 (Zan f 0)).up=true:=by rw[Zwg];exact hup
  show(match (work1 (Zan f 0)).own with|none=>propose (work1 (Zan f 0)) (rndV (work1 (Zan f 0)).dag)|some h=>_).up=true
  have hp:∀q r,(propose q r).up=q.up:=by
   intro q r;unfold propose;split
   ·rfl
   ·unfold tell;rw[(Zim _ _ _).1];rfl
  have ha:∀q,(again q).up=q.up:=by
   intro q;unfold again;split
   ·rfl
   ·rename_i x _
    have:∀(l:List Int) (q:Nd),(l.foldl (Zeg x) q).up=q.up:=by
     intro l
     induction l with
     |nil=>intro q;rfl
     |cons i l ih =>
      intro q;rw[List.foldl_cons,ih];unfold Zeg;split
      ·rfl
      ·rw[(Zeo _ _ _).2.2.2.2.1,sendBs_up]
    exact this all4 q
  split
  ·rw[hp];exact hw1
  ·split
   ·rw[hp];exact hw1
   ·split
    ·rw[ha];exact hw1
    ·exact hw1
 have hup1:(Zan (doA f (workA 0)) 0).up=true:=by rw[n1];exact hwup
 have e2:doA (doA f (workA 0)) (Zc1 0)=sync (doA f (workA 0)) 0:=Zs0 hW1 (by decide) (by omega) hup1
 have n2:Zan (doA (doA f (workA 0)) (Zc1 0)) 0=syncN (work (Zan f 0)):=by
  rw[e2];have:Zan (sync (doA f (workA 0)) 0) 0=Zan (Za1 (doA f (workA 0)) 0 (syncN (Zan (doA f (workA 0)) 0))) 0:=rfl;rw[this,Zev hW1.len (by decide),n1]
 refine⟨by rw[n2];exact hwup,by rw[n2];exact work_own hS p hup,by rw[n2];rfl,fun⟨q1,q2⟩=>?_⟩;have hex:=work_out hS p hup q1 q2;rw[←n1]at hex;obtain⟨ms',j',p',_⟩:=hW1.node 0 (by decide) (by decide);rw[hr1]at p';have hS1:=hW1.si;rw[hr1]at hS1;have:=sync_signs (k:=0) (by decide) (by decide) (table:=(Zan (doA f (workA 0)) 0).table) (by rw[p'.table];exact p'.co.table) (Zan (doA f (workA 0)) 0).out (doA f (workA 0)).signs (doA f (workA 0)).away hS1 (by rw[p'.table];exact p'.co.others) p'.out hW1.away hex;apply this;rw[e2]at hs;unfold sync at hs;simp only at hs;rw[p'.me]at hs;exact hs
theorem live_signs(h:WI f)(hr:f.rogue= -1):((calmA 3).foldl doA f).signs≠[]:=by
 intro hs;have e:calmA 3=startsA++([workA 0,Zc1 0]++(restA++([workA 0,Zc1 0]++(restA++roundA)))):=rfl;rw[e,List.foldl_append,List.foldl_append,List.foldl_append,List.foldl_append,List.foldl_append]at hs
 have okS:∀a∈startsA,AOk a∧a.kind≠7:=by
  intro a ha;simp only[startsA,List.mem_cons,List.not_mem_nil,or_false]at ha
  rcases ha with rfl|rfl|rfl|rfl<;>exact startA_ok (by decide)
 have okW:∀a∈[workA 0,Zc1 0],AOk a∧a.kind≠7:=by
  intro a ha;simp only[List.mem_cons,List.not_mem_nil,or_false]at ha
  rcases ha with rfl|rfl
  ·exact workA_ok (by decide)
  ·exact syncA_ok (by decide)
 have okR:∀a∈roundA,AOk a∧a.kind≠7:=by
  have:roundA=[workA 0,Zc1 0]++restA:=rfl;rw[this];intro a ha
  rcases List.mem_append.1 ha with ha|ha
  ·exact okW a ha
  ·exact restA_ok a ha
 -- the states on the way
 obtain⟨f1,e1⟩:∃f1,startsA.foldl doA f=f1:=⟨_,rfl⟩;have W1:WI f1:=by rw[←e1];exact wi_fold _ okS h
 have r1:f1.rogue= -1:=by rw[←e1,rogue_fold];exact hr
 have u1:(Zan f1 0).up=true:=by
  rw[←e1];have hW1:=h.doA (a:=Zbk 0) (startA_ok (by decide)).1;have hW2:=hW1.doA (a:=Zbk 1) (startA_ok (by decide)).1;have hW3:=hW2.doA (a:=Zbk 2) (startA_ok (by decide)).1;have q1:(doA f (Zbk 0)).rogue= -1:=by rw[Zgi];exact hr
  have q2:(doA (doA f (Zbk 0)) (Zbk 1)).rogue= -1:=by rw[Zgi];exact q1
  have q3:(doA (doA (doA f (Zbk 0)) (Zbk 1)) (Zbk 2)).rogue= -1:=by rw[Zgi];exact q2
  exact start_other hW3 q3 (by decide) (by decide) (start_other hW2 q2 (by decide) (by decide) (start_other hW1 q1 (by decide) (by decide) (start_up h hr)))
 rw[e1]at hs;have W2:=wi_fold [workA 0,Zc1 0] okW W1;have r2:=(rogue_fold [workA 0,Zc1 0] f1).trans r1;have W3:=wi_fold restA restA_ok W2;have r3:=(rogue_fold restA _).trans r2;have W4:=wi_fold [workA 0,Zc1 0] okW W3;have W5:=wi_fold restA restA_ok W4;have s5:=prefix_nil (grows_fold roundA okR W5).signs hs;have s4:=prefix_nil (grows_fold restA restA_ok W4).signs s5;have s3:=prefix_nil (grows_fold [workA 0,Zc1 0] okW W3).signs s4;have s2:=prefix_nil (grows_fold restA restA_ok W2).signs s3;obtain⟨a1,a2,a3,_⟩:=work_sync W1 r1 u1 s2;have hw:=waits_fold restA (fun a ha=>ha) W2 r2 s3;have b1:=hw.up a1;have b2:=hw.own a2;have b3:=hw.out.trans a3;exact(work_sync W3 r3 b1 s4).2.2.2 ⟨b2,by rw[b3];simp⟩
theorem Same.refl(p:Vw):Same p p:=⟨rfl,rfl,rfl,rfl⟩
theorem calmA_acts(k:Nat):Acts (calmA k):=by
 have h1:Acts startsA:=fun a ha=>by
  simp only[startsA,List.mem_cons,List.not_mem_nil,or_false]at ha
  rcases ha with rfl|rfl|rfl|rfl<;>exact Zh0 (by decide)
 have h2:Acts roundA:=fun a ha=>by
  simp only[roundA,List.mem_cons,List.not_mem_nil,or_false]at ha
  rcases ha with rfl|rfl|rfl|rfl|rfl|rfl|rfl|rfl|rfl
  ·exact Zy1 (by decide)
  ·exact Zpz (by decide)
  ·exact Zy1 (by decide)
  ·exact Zpz (by decide)
  ·exact Zy1 (by decide)
  ·exact Zpz (by decide)
  ·exact Zy1 (by decide)
  ·exact Zpz (by decide)
  ·exact Zzn
 refine h1.append fun a ha=>?_
 obtain⟨l,hl,hal⟩:=List.mem_flatten.1 ha;rw[List.eq_of_mem_replicate hl]at hal;exact h2 a hal
theorem sound_law(h:WI f){i:Int}(hi:0≤i∧i≤3):dagF hD cF (vwAt f i).certs=0∧(i≠f.rogue→rndV (vwAt f i).certs=(vwAt f i).round)∧∀c∈(vwAt f i).certs,Zl4 f.signs f.rogue c=0:=by
 by_cases c1:i=f.rogue
 ·rw[Zq4 c1];exact⟨by decide,fun q=>absurd c1 q,fun c hc=>by cases hc⟩
 ·rw[Zt1 c1];obtain⟨ms,q,p,_⟩:=h.node i hi.1 hi.2;refine⟨?_,fun _=>rfl,fun c hc=>?_⟩
  ·show dagF hD cF (Zan f i).dag=0;rw[p.dag];exact p.co.dag
  ·exact p.co.prov c (by rw[←p.dag];exact hc)
theorem live_law{l:List At}(h:Acts l):(run (-1) (l++calmA 3)).signs≠[]:=by
 rw[Zul];exact live_signs (Zyo rfl h) (Zgb _ _)
end Fl
theorem RMsgs.at{n c:Nat}{xs:List Msg}(hr:RMsgs h (.slice A n c) xs):n=xs.length∧n≤c∧n*264≤140737488355328∧∀k (hk:k<xs.length),∃b o vt vb vp vd cb cp cv,A=some ⟨b,o,none⟩∧(∀j u,(msgC xs[k] vt vb vp vd cb cp cv).toList[j]?=some u→h ⟨b,o+k*19+j,none⟩=some u)∧RMsg h xs[k] vt vb vp vd cb cp cv:=by
 obtain⟨A',c',e,h1,_,h2,_,h3⟩:=hr;injection e with e1 e2 e3;subst e1 e2 e3;refine⟨rfl,h1,h2,fun k hk=>?_⟩;obtain⟨b,o,ea,hc⟩:=h3 (by omega);obtain⟨cs,hl,hcell,vt,vb,vp,vd,cb,cp,cv,rfl,r⟩:=hc k hk;exact⟨b,o,vt,vb,vp,vd,cb,cp,cv,ea,fun j u hu=>by rw[hcell j (by rw[←hl];exact(List.getElem?_eq_some_iff.1 hu).1)];exact hu,r⟩
namespace Fl
theorem OwnA.base{b b':Nat}{l:List At}(h:OwnA w b v l)(hb:b'≤b):OwnA w b' v l:=by
 obtain⟨h1,h2⟩:=h.own;refine⟨h1,?_⟩
 rcases h2 with h2|⟨g,cap,cur,h3,h4,h5⟩
 ·exact .inl h2
 ·exact .inr ⟨g,cap,cur,h3,Nat.le_trans hb h4,h5⟩
theorem ROc.mono:Mono ROc:=fun h h' cs x ⟨a,b,c,e,h1,h2,h3⟩ hle=>⟨a,b,c,e,RSl.mono RVw.mono h1 hle,RSl.mono RSign.mono h2 hle,h3.mono hle⟩
theorem starts_take{n:Nat}(h:n<4):startsA.take (n+1)=startsA.take n++[Zbk n]:=by
 have:n=0∨n=1∨n=2∨n=3:=by omega
 rcases this with rfl|rfl|rfl|rfl<;>rfl
theorem round_take{n:Nat}(h:n<4):roundA.take (2*(n+1))=roundA.take (2*n)++[workA n,Zc1 n]:=by
 have:n=0∨n=1∨n=2∨n=3:=by omega
 rcases this with rfl|rfl|rfl|rfl<;>rfl
theorem rounds_len(k:Nat):((List.replicate k roundA).flatten).length=9*k:=by
 induction k with
 |zero=>rfl
 |succ k ih=>rw[List.replicate_succ,List.flatten_cons,List.length_append,ih];show 9+9*k=_;omega
theorem rounds_succ(k:Nat):(List.replicate (k+1) roundA).flatten=(List.replicate k roundA).flatten++roundA:=by
 rw[List.replicate_succ',List.flatten_append];simp
theorem calm_any(k:Nat)(w:World)(hk:k≤100) :
 Calls Tryz.prog 17 #[.int .i64 k] w fun e w'=>∃v,e=.returned v∧Below w.heap.size w w'∧OwnA w' w.heap.size v (calmA k):=by
 go_enter Tryz.func17,Tryz.ntmps17
 go_wp2
 go_loopw [3,4] (fun vr ct wr=>∃n:Nat,n≤4∧ct=.int .i64 n∧OwnA wr w.heap.size vr (startsA.take n)∧Below w.heap.size w wr) (fun _ ct _=>4-(intOf ct).toNat)
 case atStart=>exact⟨0,by omega,rfl,OwnA.nil _ _,Below.refl _ _⟩
 case round =>
  obtain⟨n,hn,rfl,hown,hbl⟩:=hrel;have hz:=hbl.size
  by_cases hlt:n<4
  ·have hI:(n:Int)<4:=by omega
   have Hn:=Lib.hid (starts_take hlt);have hl:(startsA.take n).length≤4:=by rw[List.length_take];omega
   generalize startsA.take n=xs at hown Hn hl;obtain⟨vA,vc,rfl⟩:=hown.form;have hba:=Zac wr (.cells #[.int .i64 8,.int .i64 n,.int .i64 0,.string ⟨#[]⟩] 58);have hy:=RAts.ofBlk [Zbk n] (Blk.new wr 58 #[.int .i64 8,.int .i64 n,.int .i64 0,.string ⟨#[]⟩]) rfl (by simp)
   go_wp2_with (at_builtin;go_loud (refine Zdt (xs:=xs) (ys:=[Zbk n]) (W:=w) _ _ rfl rfl rfl (hown.alloc (.cells #[.int .i64 8,.int .i64 n,.int .i64 0,.string ⟨#[]⟩] 58)) (hbl.trans (hba.mono hz)) (Nat.le_trans hz hba.size) rfl hy (by simp;omega) ?_))
   intro v2 w5 ho5 hb5 hg5;rw[←Hn.out]at ho5;clear hy hba hown hg5;go_wp2;go_roundw
   case rel=>exact⟨n+1,by omega,by go_num,ho5,hb5⟩
   case measure=>simp[intOf];omega
  ·have hI:¬(n:Int)<4:=by omega
   have h4:n=4:=by omega
   rw[h4,show startsA.take 4=startsA from rfl]at hown;clear h4 hlt hn
   go_wp2_with fail
   go_loopw [3,5,6] (fun vr ct _ wr=>∃i:Nat,i≤k∧ct=.int .i64 i∧OwnA wr w.heap.size vr (startsA++(List.replicate i roundA).flatten)∧Below w.heap.size w wr) (fun _ ct _ _=>k-(intOf ct).toNat)
   case atStart=>exact⟨0,by omega,rfl,by simpa using hown,hbl⟩
   case round =>
    clear hown hbl hz;obtain⟨i,hi,rfl,hown,hbl⟩:=hrel;have hz:=hbl.size
    by_cases hlt:i<k
    ·have hIk:(i:Int)<k:=by omega
     have hl:(startsA++(List.replicate i roundA).flatten).length≤1000:=by rw[List.length_append,rounds_len];show 4+9*i≤_;omega
     have Hs:=Lib.hid (rounds_succ i);obtain⟨xs,hxs⟩:∃xs,Hid (startsA++(List.replicate i roundA).flatten=xs):=⟨_,rfl⟩;rw[hxs.out]at hown hl;obtain⟨wo,hwo⟩:∃wo:World,wo=wr:=⟨_,rfl⟩;subst hwo
     go_wp2_with fail
     go_loopw [3,6] (fun vr ct wr=>∃n:Nat,n≤4∧ct=.int .i64 n∧OwnA wr w.heap.size vr (xs++roundA.take (2*n))∧Below w.heap.size w wr) (fun _ ct _=>4-(intOf ct).toNat)
     case atStart=>exact⟨0,by omega,rfl,by simpa using hown,hbl⟩
     case round =>
      clear hown hbl hz;obtain⟨n,hn,rfl,hown,hbl⟩:=hrel;have hz:=hbl.size
      by_cases hlt4:n<4
      ·have hI4:(n:Int)<4:=by omega
       have Hn:Hid (xs++roundA.take (2*(n+1))=(xs++roundA.take (2*n))++[workA n,Zc1 n]):=by
        show _=_;rw[round_take hlt4,List.append_assoc]
       have hl2:(xs++roundA.take (2*n)).length≤2000:=by rw[List.length_append,List.length_take];have:roundA.length=9:=rfl;omega
       generalize xs++roundA.take (2*n)=ys at hown Hn hl2;obtain⟨vA,vc,rfl⟩:=hown.form;have hba:=Zac wr (.cells #[.int .i64 2,.int .i64 n,.int .i64 0,.string ⟨#[]⟩,.int .i64 3,.int .i64 n,.int .i64 0,.string ⟨#[]⟩] 58);have hy:=RAts.ofBlk [workA n,Zc1 n] (Blk.new wr 58 #[.int .i64 2,.int .i64 n,.int .i64 0,.string ⟨#[]⟩,.int .i64 3,.int .i64 n,.int .i64 0,.string ⟨#[]⟩]) rfl (by simp)
       go_wp2_with (at_builtin;go_loud (refine Zdt (xs:=ys) (ys:=[workA n,Zc1 n]) (W:=w) _ _ rfl rfl rfl (hown.alloc (.cells #[.int .i64 2,.int .i64 n,.int .i64 0,.string ⟨#[]⟩,.int .i64 3,.int .i64 n,.int .i64 0,.string ⟨#[]⟩] 58)) (hbl.trans (hba.mono hz)) (Nat.le_trans hz hba.size) rfl hy (by simp;omega) ?_))
       intro v2 w5 ho5 hb5 hg5;rw[←Hn.out]at ho5;clear hy hba hown hg5;go_wp2;go_roundw
       case rel=>exact⟨n+1,by omega,by go_num,ho5,hb5⟩
       case measure=>simp[intOf];omega
      ·have hI4:¬(n:Int)<4:=by omega
       have h4:n=4:=by omega
       have Hn:Hid (startsA++(List.replicate (i+1) roundA).flatten=(xs++roundA.take (2*4))++[flowA]):=by
        show _=_;rw[Hs.out,←List.append_assoc,hxs.out,List.append_assoc];rfl
       rw[h4]at hown;have hl2:(xs++roundA.take (2*4)).length≤2000:=by rw[List.length_append,List.length_take];have:roundA.length=9:=rfl;omega
       generalize xs++roundA.take (2*4)=ys at hown Hn hl2;obtain⟨vA,vc,rfl⟩:=hown.form;have hba:=Zac wr (.cells #[.int .i64 10,.int .i64 0,.int .i64 0,.string ⟨#[]⟩] 58);have hy:=RAts.ofBlk [flowA] (Blk.new wr 58 #[.int .i64 10,.int .i64 0,.int .i64 0,.string ⟨#[]⟩]) rfl (by simp);clear h4 hlt4 hn
       go_wp2_with (at_builtin;go_loud (refine Zdt (xs:=ys) (ys:=[flowA]) (W:=w) _ _ rfl rfl rfl (hown.alloc (.cells #[.int .i64 10,.int .i64 0,.int .i64 0,.string ⟨#[]⟩] 58)) (hbl.trans (hba.mono hz)) (Nat.le_trans hz hba.size) rfl hy (by simp;omega) ?_))
       intro v2 w5 ho5 hb5 hg5;rw[←Hn.out]at ho5;clear hy hba hown hg5;go_wp2;go_roundw
       case rel=>exact⟨i+1,by omega,by go_num,ho5,hb5⟩
       case measure=>simp[intOf];omega
    ·have hIk:¬(i:Int)<k:=by omega
     have he:i=k:=by omega
     rw[he]at hown;clear he hlt hi;go_wp2;go_ret;exact⟨_,rfl,hbl,hown⟩
end Fl
theorem RSl.small(hr:RSl sz R bs h v xs)(hb:0<bs):xs.length≤140737488355328:=by
 obtain⟨_,_,_,_,_,h1,_⟩:=hr;exact Nat.le_trans (Nat.le_mul_of_pos_right _ hb) h1
namespace Fl
theorem wpList_load_row_g{o:Oper}{a:Act}(hwd:Region.wanted o (yielded ops a.tmps)=true)(ty:TypeId)(x:Operand)(ho:o.op=.load ty x)(g:Nat)(hx:a.eval x=.pointer (some ⟨g,0,none⟩))(t:TypeId)(cs:Array Value)(fr:Nat×Nat)(d:TypeDesc)(hg:w.heap[g]?=some (.cells cs t fr))(hu:P.underlying ty=some d)(hd:(match d with|.struct _|.array _ _=>true|_=>false)=true)(hi:(P.info? ty).map (·.size)=some cs.size)(h:wpList P ops Q rest (a.put o.dst (.agg cs)) w):wpList P ops Q (o::rest) a w :=
 wpList_step fun K hK=>by rw[if_pos hwd];exact wp_load_row ty x ho g hx t cs fr d hg hu hd hi (hK _ _ h)
theorem sound_any(rg:Int)(A1 A2:Option Addr)(n1 c1 n2 c2:Nat)(aw:Int)(v3:Value)(V:List Vw)(SG:List Sign)(w:World)(hV:RSl 6 RVw 112 w.cell? (.slice A1 n1 c1) V)(hS:RSigns w.cell? (.slice A2 n2 c2) SG)(h3:∃A n c,v3=.slice A n c)(hT:Tabs w.cell?)(hlaw:∀i (hi:i<V.length),dagF hD cF V[i].certs=0∧((i:Int)≠rg→rndV V[i].certs=V[i].round)∧∀c∈V[i].certs,Zl4 SG rg c=0) :
 Calls Tryz.prog 23 #[.int .i64 rg,.agg #[.slice A1 n1 c1,.slice A2 n2 c2,.int .i64 aw,v3]] w fun e w'=>e=.returned (.bool true)∧Below w.heap.size w w':=by
 obtain⟨A3,n3,c3,rfl⟩:=h3;obtain rfl:n1=V.length:=(RVws.at hV).1;have Hlaw:=Lib.hid hlaw;have hVs:=hV.small (by decide);clear hlaw
 go_enter Tryz.func23,Tryz.ntmps23
 go_upto_region 1 with fail
 refine Zo fun W hk hsz hbl=>?_
 clear hsz;have hz:=hbl.size;have hTW:=hT.mono (Zaa hbl);obtain⟨-,hvat⟩:=RVws.at (hV.mono RVw.mono (Zaa hbl));have Hvat:=Lib.hid hvat;have hSW:=hS.mono RSign.mono (Zaa hbl);clear hvat hV hS hT;go_wp2
 go_loopw [5,6,7,8,9] (fun i _ _ _ _ wr=>∃j:Nat,j≤V.length∧i=.int .i64 j∧Below W.heap.size W wr) (fun i _ _ _ _ _=>V.length-(intOf i).toNat)
 case atStart=>exact⟨0,Nat.zero_le _,rfl,Below.refl _ _⟩
 case round =>
  obtain⟨j,hj,rfl,hbr⟩:=hrel;have hzr:=hbr.size;have hkr:=hk.kept hbr;have g0:=hkr.cell 0;simp at g0
  by_cases hlt:j<V.length
  ·have hjI:(j:Int)<V.length:=by omega
   obtain⟨b1,o1,vc,vb,vv,vp,rfl,x0,xr,xc,xb,xv,xp,rc,rb,rv,rp⟩:=Hvat.out j hlt;obtain⟨hd0,hrd,hpv⟩:=Hlaw.out j hlt;generalize V[j]=P at *;have q:=Zaa hbr;have x0:=q _ _ x0;have xr:=q _ _ xr;have xc:=q _ _ xc;have xb:=q _ _ xb;have xv:=q _ _ xv;have xp:=q _ _ xp;have rc:=rc.mono RCrt.mono q;have hPs:=rc.small (by decide);obtain⟨cA,cc,rfl,-⟩:=id rc;obtain⟨bA,bc,rfl,-⟩:=id rb;obtain⟨vA,vc',rfl,-⟩:=id rv;obtain⟨pA,pc,rfl,-⟩:=id rp;have Hpv:=Lib.hid hpv;have hno:Hid ((j:Int)≠rg→rndV P.certs=P.round):=Lib.hid hrd;clear rb rv rp hpv hrd
   go_upto_region 5 with fail
   refine Zo fun W2 hk2 hsz2 hb2=>?_
   clear hsz2 x0 xr xc xb xv xp g0;have hbr2:=hbr.trans (hb2.mono hzr);have hz2:=hbr2.size;have f1:=hk2.cell 1;have f2:=hk2.cell 2;simp at f1 f2
   go_wp2_with fail
   refine(Zjm _ P.certs _ (rc.mono RCrt.mono (Zaa hb2)) (hTW.mono (Zaa hbr2))).mono ?_;rintro e w3 ⟨rfl,hb3⟩;rw[hd0];have hbr3:=hbr2.trans (hb3.mono hz2);have hz3:=hbr3.size;have hk3:=hk2.kept hb3;have f1:=hk3.cell 1;simp at f1;have hbr23:=hb2.trans (hb3.mono hb2.size);obtain⟨RN,hRN⟩:∃r,Hid (rndV P.certs=r):=⟨_,rfl⟩;rw[hRN.out]at hno⊢;clear hd0 f2 hRN hk2
   have hor:(((j:Int) != rg)=false)∨(((j:Int) != rg)=true∧RN=P.round):=by
    by_cases e:(j:Int)=rg
    ·exact .inl (by simp[e])
    ·exact .inr ⟨by simp[e],hno.out e⟩
   rcases hor with hjb|⟨hjb,hre⟩
   all_goals
    try subst hre
    go_wp2_with fail
    go_loopw [9] (fun i wx=>∃k:Nat,k≤P.certs.length∧i=.int .i64 k∧Below w3.heap.size w3 wx) (fun i _=>P.certs.length-(intOf i).toNat)
    case atStart=>exact⟨0,Nat.zero_le _,rfl,Below.refl _ _⟩
    case round =>
     obtain⟨k,hkk,rfl,hbx⟩:=hrel;have hzx:=hbx.size;have hkx:=hk3.kept hbx;have f2:=hkx.cell 2;simp at f2;have hbrx:=hbr3.trans (hbx.mono hz3);have hk0:=hk.kept hbrx;have g1:=hk0.cell 1;simp at g1
     by_cases hlk:k<P.certs.length
     ·have hkI:(k:Int)<P.certs.length:=by omega
      have qx:=Zaa (hbr23.trans (hbx.mono hbr23.size));obtain⟨-,-,-,hcat⟩:=RCrts.at rc;obtain⟨b0,o0,xb,xp,xv,rfl,e0,e1,e2,e3,e4,r1,r2,r3⟩:=hcat k hlk;have hpk:=Hpv.out _ (List.getElem_mem hlk);generalize P.certs[k]=x at *;have e0:=qx _ _ e0;have e1:=qx _ _ e1;have e2:=qx _ _ e2;have e3:=qx _ _ e3;have e4:=qx _ _ e4;have hSx:=hSW.mono RSign.mono (Zaa hbrx);have hTx:=hTW.mono (Zaa hbrx);clear hcat f1
      go_wp2_with fail
      refine Zr [] (.q 0 (.q 1 (.q 2 (.q 3 (.q 4 (.q 5 (.q 6 (.q 7 (.l 8 (.q 9 .nil)))))))))) fun W5 hS=>?_
      repeat((first|refine pq (h:=⟨_,fun w' hS=>by(have q:=Zaa hS;have z1:=q _ _ g1;have z2:=q _ _ f2;have i0:=q _ _ e0;have i1:=q _ _ e1;have i2:=q _ _ e2;have i3:=q _ _ e3;have i4:=q _ _ e4;go_simp;exact rfl),?_⟩)|refine Zq ?_);simp only[sx])
      refine Zd fun K hK=>?_
      try simp only[sy]
      go_simp;have qq:=Zaa hS;refine(Zss _ SG rg x _ _ _ _ (hSx.mono RSign.mono qq) ((r1.mono RDig.mono qx).mono RDig.mono qq) ((r2.mono RDig.mono qx).mono RDig.mono qq) ((r3.mono qx).mono qq) (hTx.mono qq)).mono ?_;rintro e w9 ⟨rfl,hb9⟩;rw[hpk];refine hK.out _ _ (hS.trans (hb9.mono hS.size)) fun hS=>?_
      clear hK K
      try simp only[sx]
      repeat(refine Zq ?_;simp only[sx])
      refine Zah ?_;go_wp2;go_roundw
      case rel=>exact⟨k+1,by omega,by go_num,hbx.trans (hS.mono hzx)⟩
      case measure=>simp[intOf];omega
     ·have hkI:¬(k:Int)<P.certs.length:=by omega
      clear f1 g1;go_wp2;go_roundw
      case rel=>exact⟨j+1,by omega,by go_num,hbrx⟩
      case measure=>simp[intOf];omega
  ·have hjI:¬(j:Int)<V.length:=by omega
   go_wp2;go_ret;exact⟨rfl,hbl.trans (hbr.mono hz)⟩
theorem views_sound{rg:Int}{l:List At}(hr:inB rg (-1) 3=true)(ha:Acts l):∀i (hi:i<(Zhg (run rg l)).length),dagF hD cF (Zhg (run rg l))[i].certs=0∧((i:Int)≠rg→rndV (Zhg (run rg l))[i].certs=(Zhg (run rg l))[i].round)∧∀c∈(Zhg (run rg l))[i].certs,Zl4 (run rg l).signs rg c=0:=by
 intro i hi;have h4:i<4:=by rw[Zes]at hi;exact hi
 have h:=sound_law (Zyo hr ha) (i:=(i:Int)) ⟨by omega,by omega⟩;rw[Zgb]at h;rw[Zwl];exact h
end Fl
end Go.Proofs.YtinibgklgehdpaaGreatDoor
