/- The law TopCopies: a copy that comes behind what it is a copy of does nothing: it answers true at every argument, and changes none of them: no condition; its card: the tables tied to the program's text. -/
import Derived.WalkKit
import Derived.ProofKit
import Derived.OpenShut
import Derived.IntWalk
import Derived.BigQuiet
import Derived.Deep.QuietTactic
import Derived.Outline
import Derived.Lib.QuietBelow
import Derived.Lib.Hide
import Derived.Deep.RegionHeld3
import Derived.Laws.OwnMore
import Derived.SizedLaws
import Derived.Deep.Slices
import Derived.Lib.ConvBytes
import Derived.Laws.BytesArg
import Derived.Shelf.Abstract
import Derived.Deep.DeepCutAuto
import Derived.Deep.CutBlock
import Derived.Lib.EndianBits
import Derived.Laws.BitsLemmas
import Derived.WalkSpells
import Derived.Deep.MidRow
import Derived.StringKeys
import Derived.Maps.OwnSet
import Derived.Maps.AppendAt
import Derived.Laws.Strings
import Derived.Shelf.SlSortCmp.WholeK
import Derived.Shelf.SlSortCmp.NoneTotal
import Derived.Sort.OwnSortedInts
import Derived.RangeFuncBox
import Derived.RangeFuncLeaves
import Derived.OwnWalkIn
import Derived.TacticsInMore
import Derived.LoopNIn
import Derived.LoopIn
import Derived.Shelf.Small.Bits
import Derived.Shelf.Strconv.Itoa0
import Derived.Shelf.Sort.Plain
import Derived.Shelf.Slices.Turned
import Derived.Ground.Names2Prog
import Derived.Shelf.Slices.SearchI
import Derived.Shelf.Slices.In.SortNone
import Derived.Shelf.SlGeneric
import Derived.Ground.SlsfProg
import Derived.OwnWalk
import Derived.Carry
import Derived.SevenTiedAt
import Derived.LaidMore
import Derived.Stop.Joined
import Derived.Test.YtinibgklgehdpaaGreatDoorK42
namespace Go.Proofs.YtinibgklgehdpaaGreatDoor
open Go.ChangeShapes Go.WideShapes Go.ChangeAt Go.RowKit Qa Qb Qc
set_option linter.all false
set_option maxHeartbeats 20000000
set_option maxRecDepth 100000
variable{w w':World}{K:Act→World→Prop}{v:Value}{cs:Array Value}{A:Option Addr}{h:View}{e:TypeId}{i g bs:Nat}{f:Fl.Ft}{n:Fl.Nd}{α:Type}{xs:List α}{enc:α→Value}{l:List Crt}
theorem OwnVec.drew{b:Nat}(h:OwnVec enc e w b v xs):OwnVec enc e w.drew b v xs:=h.kept (Zad w)
section
variable {G:List Nat} {a b c w w':World}
theorem Chg.alloc(h:Chg G a b)(o:Obj):Chg G a (b.alloc o):=h.trans (.of_below (Zac b o) (Nat.le_refl _))
theorem Chg.frozen(h:Chg G a b)(k o:Nat)(hk:k<a.heap.size)(hn:k∉G):b.frozen? ⟨k,o,none⟩=a.frozen? ⟨k,o,none⟩:=World.frozen?_of_block (h.block k hk hn)
theorem OwnVec.chg{B:Nat}(h:OwnVec enc e a B v xs)(hc:Chg G a b)(hG:∀k,v.ownBlock=some k→k∉G):OwnVec enc e b B v xs:=by
 obtain⟨h1,h2⟩:=h.own;refine⟨h1,?_⟩
 rcases h2 with h2|⟨g,cap,cur,h3,h4,h5,h6⟩
 ·exact .inl h2
 ·refine .inr ⟨g,cap,cur,h3,h4,?_,h6⟩;have hlt:g<a.heap.size:=(Array.getElem?_eq_some_iff.1 h5).1;rw[hc.block g hlt (hG g (by rw[h3];rfl))];exact h5
end
theorem OwnVec.at{α:Type}{enc:α→Value}{e:TypeId}{w:World}{B g n c:Nat}{xs:List α}(h:OwnVec enc e w B (.slice (some ⟨g,0,none⟩) n c) xs)(i:Nat)(hi:i<xs.length):w.cell? ⟨g,i,none⟩=some (enc xs[i]):=by
 have:=h.own.cells (g:=g) rfl i (enc xs[i]) (by simp[hi]);rw[Zbs,Nat.zero_add]at this;exact this
namespace Fl
section
variable {T T':Nat×Nat→Prop} {o o' o2:Own} {w w' w2:World}
theorem Fr.drew(hl:Lim o w):Fr T o w o w.drew:=.of_below hl (Zad w)
variable {α:Type} {sz:Nat} {R:View→List Value→α→Prop} {e:TypeId} {v:Value} {xs:List α} {t:Nat×Nat}
theorem Row.data(hR:Mono R)(h:Row o t sz R e w v xs)(hbs:xs.length*bs≤140737488355328){o2:Own}(hv:VLe (Zas o w) (Zas o2 w))(hz:∀g,v.ownBlock=some g→o2 g=none):RSl sz R bs (Zas o2 w) v xs:=by
 obtain⟨css,h1,h2,h3⟩:=h.own
 have hlen:∀i (hi:i<css.length),css[i].length=sz:=fun i hi=>by
  obtain⟨cs,q1,q2,_⟩:=h3 i (by omega);rw[List.getElem?_eq_getElem hi]at q1;injection q1 with q1;rw[q1];exact q2
 rcases id h1.2 with ⟨rfl,h0⟩|⟨g,cap,cur,rfl,k2,k3,k4,k5,k6,k7⟩
 ·have:xs=[]:=List.eq_nil_of_length_eq_zero h0;subst this;exact⟨none,0,rfl,Nat.le_refl _,Nat.zero_le _,by simp,fun _=>rfl,fun h=>by simp at h⟩
 ·refine⟨_,cap,rfl,k4,k5,hbs,(fun h=>by cases h),fun hp=>⟨g,0,rfl,fun i hi=>?_⟩⟩;obtain⟨cs,q1,q2,q3⟩:=h3 i hi;refine⟨cs,q2,fun j hj=>?_,hR _ _ _ _ q3 hv⟩;have hf:=Zgv hlen q1 hj;have hj':cs[j]?=some (cs[j]'(by omega)):=List.getElem?_eq_getElem _;rw[hj'];have:=h1.cells (g:=g) rfl (i*sz+j) _ (hf.trans hj');rw[Zbs]at this;unfold Zas;rw[if_neg (by rw[hz g rfl];simp)];rwa[Nat.zero_add]at this⊢
end
end Fl
theorem Keeps.refl(w:World):Keeps w w:=fun _ _ _ _ h=>h
section
variable {P:Program} {ops:Array Oper} {Q:Exit→Act→World→Prop} {S:World→Prop}
theorem wpPlanK_skip{o:Oper}{q:Bool}{rest:List (Nat×Bool)}{a:Act}(hS:S w)(ho:ops[i]?=some o)(hw:Region.wanted o (yielded ops a.tmps)=false)(h:Zfe P ops Q S K rest (a.put o.dst undef) w):Zfe P ops Q S K ((i,q)::rest) a w:=by
 cases q with
 |true=>exact⟨o,undef,ho,.inr ⟨hw,rfl⟩,h⟩
 |false =>
  show wpOp _ _ _ _ _ _ _;unfold wpOp;simp only[ho,hw];exact⟨hS,fun _=>h⟩
end
def RHdr(h:View)(cs:List Value)(x:Hdr):Prop:=∃vb vp,cs=[.int .i64 x.author,.int .i64 x.round,vb,vp]∧RDigs h vb x.batches∧RDigs h vp x.parents
theorem RHdr.mono:Mono RHdr:=fun h h' cs x ⟨vb,vp,e,h1,h2⟩ hle=>⟨vb,vp,e,h1.mono RDig.mono hle,h2.mono RDig.mono hle⟩
theorem RCrt.zero(h:View):RCrt h [.int .i64 0,.int .i64 0,.slice none 0 0,.slice none 0 0,.slice none 0 0] zeroC:=⟨_,_,_,rfl,RDigs.nil _,RDigs.nil _,RVec.nil _ _ _⟩
theorem RCrts.of_own{b:Nat}{xs:List Crt}{bb:Nat}(h:OwnSl 5 (RFrom bb RCrt) 64 w b v xs)(hl:xs.length*88≤140737488355328):RCrts w.cell? v xs :=
 RSl.weak (fun h cs x hr=>RCrt.mono _ _ _ _ hr (View.from_le _ _)) (h.reads (RFrom.mono RCrt.mono) hl)
theorem RSlots.form{xs:List Slot}(hr:RSlots h v xs):∃A c,v=.slice A xs.length c:=by
 obtain⟨A,c,e,_⟩:=hr;exact⟨A,c,e⟩
theorem GrL.blk{v':Value}(h:GrL w w' v v'){t:TypeId}(hb:Blk w g t cs)(hne:some g≠v.ownBlock):Blk w' g t cs:=hb.grown h.gr hne
structure SkR (b:List UInt8) (at_:Nat) (s:RS):Prop where
 over:s.2=decide (b.length<at_)
 rest:s.2=false→s.1=b.drop at_
theorem SkR.start(b:List UInt8):SkR b 0 (b,false):=⟨by simp,fun _=>by simp⟩
theorem SkR.next{b:List UInt8}{a n:Nat}{s:RS}(h:SkR b a s):SkR b (a+n) (tkS n s):=by
 obtain⟨l,sh⟩:=s;obtain⟨h1,h2⟩:=h;simp only at h1 h2;unfold tkS;cases sh
 ·have h2:=h2 rfl;have h1:¬b.length<a:=by simpa using h1.symm
  subst h2;simp only[Bool.false_or,decide_eq_true_eq,List.length_drop];split
  ·exact⟨by simp;omega,fun h=>by cases h⟩
  ·refine⟨by simp;omega,fun _=>by simp[List.drop_drop]⟩
 ·have h1:b.length<a:=by simpa using h1.symm
  simp only[Bool.true_or,if_true];exact⟨by simp;omega,fun h=>by cases h⟩
theorem SkR.none{b:List UInt8}{a n:Nat}{s:RS}(h:SkR b a s)(ho:b.length<a+n):tkB n s=[]:=by
 obtain⟨l,sh⟩:=s;obtain⟨h1,h2⟩:=h;simp only at h1 h2;unfold tkB;rw[if_pos];cases sh
 ·rw[h2 rfl];have h1:¬b.length<a:=by simpa using h1.symm
  simp;omega
 ·rfl
theorem SkR.short{b:List UInt8}{a n:Nat}{s:RS}(h:SkR b a s):(tkS n s).2=decide (b.length<a+n):=h.next.over
theorem RBats.form{xs:List Bat}(hr:RBats h v xs):∃A c,v=.slice A xs.length c:=by
 obtain⟨A,c,e,_⟩:=hr;exact⟨A,c,e⟩
theorem RBats.len{xs:List Bat}(hr:RBats h v xs):xs.length*40≤140737488355328:=by
 obtain⟨_,_,_,_,_,h,_⟩:=hr;exact h
section
variable {P:Program} {ops:Array Oper} {Q:Exit→Act→World→Prop} {S:World→Prop} {C:List Nat}
theorem plt_skip{o:Oper}{p:PlT}{a:Act}(hS:S w)(ho:ops[i]?=some o)(hw:Region.wanted o (yielded ops a.tmps)=false)(h:p.wp P ops Q S C (a.put o.dst undef) w):PlT.wp P ops Q S C (.q i p) a w:=⟨o,undef,ho,.inr ⟨hw,rfl⟩,hS,h⟩
end
namespace Fl
theorem runE_zero{rogue:Int}{l:List At}(h:runE rogue l=0):inB rogue (-1) 3=true∧l.length≤3000∧∀a∈l,actE a=0:=by
 unfold runE at h;split at h
 ·cases h
 ·rename_i h1;split at h
  ·cases h
  ·refine⟨by simpa using h1,by omega,fun a ha=>?_⟩;split at h
   ·rename_i b hb;have:=List.find?_some hb;simp[h]at this
   ·rename_i hn;rw[List.find?_eq_none]at hn;simpa using hn a ha
theorem WI.run{rogue:Int}{l:List At}(h:runE rogue l=0):WI (run rogue l):=by
 obtain⟨h1,_,h3⟩:=runE_zero h;exact WI.fold l (fun a ha=>Zr2 (h3 a ha)) (WI.start h1)
theorem Uniq.eq_of{l:List Slot}(h:Uniq l){a b:Slot}(ha:a∈l)(hb:b∈l)(e1:a.author=b.author)(e2:a.round=b.round):a=b:=by
 obtain⟨i,hi,rfl⟩:=List.getElem_of_mem ha;obtain⟨j,hj,rfl⟩:=List.getElem_of_mem hb;have hp:=List.pairwise_iff_getElem.1 h
 rcases Nat.lt_trichotomy i j with hij|hij|hij
 ·exact absurd ⟨e1,e2⟩ (hp i j hi hj hij)
 ·subst hij;rfl
 ·exact absurd ⟨e1.symm,e2.symm⟩ (hp j i hj hi hij)
theorem find_prefix{l':List Crt}(h:l <+: l'){p:Crt→Bool}(hs:(l.find? p).isSome=true):(l'.find? p).isSome=true:=by
 obtain⟨t,rfl⟩:=h;rw[List.find?_append];cases hf:l.find? p with
 |none=>rw[hf]at hs;cases hs
 |some x=>rfl
theorem filterMap_len{α β:Type}(f g:α→Option β)(hfg:∀a,(f a).isSome=true→(g a).isSome=true):∀(l:List α),(l.filterMap f).length≤(l.filterMap g).length
 |[]=>Nat.le_refl _
 |a::l=>by
  have ih:=filterMap_len f g hfg l
  rw[List.filterMap_cons,List.filterMap_cons]
  cases h1:f a with
  |none =>
   cases h2:g a with
   |none=>exact ih
   |some y=>simp only[List.length_cons];omega
  |some x =>
   have:=hfg a (by rw[h1];rfl)
   cases h2:g a with
   |none=>rw[h2]at this;cases this
   |some y=>simp only[List.length_cons];omega
theorem atRound_mono{l':List Crt}(h:l <+: l')(r:Int):(Zbu l r).length≤(Zbu l' r).length:=by
 unfold Zbu;exact filterMap_len _ _ (fun a=>find_prefix h) _
theorem nextFrom_ge(l:List Crt):∀(n:Nat) (r:Int),r≤Zdy l n r
 |0,r=>Int.le_refl _
 |n+1,r=>by
  rw[Zdy]
  split
  ·have:=nextFrom_ge l n (r+1);omega
  ·exact Int.le_refl _
theorem nextFrom_mono{l l':List Crt}(h:l <+: l'):∀(n n':Nat) (r:Int),n≤n'→Zdy l n r≤Zdy l' n' r
 |0,n',r,_=>nextFrom_ge l' n' r
 |n+1,0,r,hn=>by omega
 |n+1,n'+1,r,hn=>by
  have hm:=atRound_mono h r
  rw[Zdy,Zdy]
  split
  ·rw[if_pos (by omega)]
   exact nextFrom_mono h n n' (r+1) (by omega)
  ·split
   ·have:=nextFrom_ge l' n' (r+1);omega
   ·exact Int.le_refl _
theorem rndV_mono{l':List Crt}(h:l <+: l')(h1:dagF hD cF l=0)(h2:dagF hD cF l'=0):rndV l≤rndV l':=by
 unfold rndV;rw[if_pos h1,if_pos h2];exact nextFrom_mono h _ _ _ (by have:=h.length_le;omega)
theorem node_come(h:WI f){tw k:Int}(ht:0≤tw∧tw≤3)(hk:0≤k∧k≤3)(m:Msg) :
 Zan (come f tw m) k=if k=tw∧(Zan f tw).up=true∧tw≠f.rogue then come1 f.signs f.rogue (Zan f tw) m else Zan f k:=by
 unfold come
 by_cases hc:(Zan f tw).up=false∨tw=f.rogue
 ·rw[if_pos hc,if_neg];rintro⟨_,h2,h3⟩
  rcases hc with hc|hc
  ·rw[hc]at h2;cases h2
  ·exact h3 hc
 ·rw[if_neg hc,Zdv h.len ht hk];simp only[not_or,Bool.not_eq_false]at hc
  by_cases e:k=tw
  ·rw[if_pos e,if_pos ⟨e,hc.1,hc.2⟩]
  ·rw[if_neg e,if_neg (fun q=>e q.1)]
structure Grows (f g:Ft):Prop where
 node:∀k:Int,0≤k→k≤3→Le (core (Zan f k)) (core (Zan g k))
 signs:f.signs <+: g.signs
theorem Grows.refl(f:Ft):Grows f f:=⟨fun _ _ _=>Le.refl _,List.prefix_refl _⟩
theorem Grows.round{g:Ft}(h:WI f)(hg:WI g)(q:Grows f g){k:Int}(h0:0≤k)(h3:k≤3):rndV (Zan f k).dag≤rndV (Zan g k).dag:=by
 obtain⟨ms,j,p1,_⟩:=h.node k h0 h3;obtain⟨ms',j',p2,_⟩:=hg.node k h0 h3;exact rndV_mono (q.node k h0 h3).dag (by rw[p1.dag];exact p1.co.dag) (by rw[p2.dag];exact p2.co.dag)
structure Still (i:Int) (f g:Ft):Prop where
 node:Zan g i=Zan f i
 signs:∃t,g.signs=f.signs++t∧∀s∈t,s.node≠i
theorem Still.refl(i:Int)(f:Ft):Still i f f:=⟨rfl,[],by simp,fun s hs=>by cases hs⟩
theorem Still.trans{i:Int}{g k:Ft}(h:Still i f g)(q:Still i g k):Still i f k:=by
 obtain⟨t,h1,h2⟩:=h.signs;obtain⟨u,q1,q2⟩:=q.signs;refine⟨q.node.trans h.node,t++u,by rw[q1,h1,List.append_assoc],fun s hs=>?_⟩
 rcases List.mem_append.1 hs with hs|hs
 ·exact h2 s hs
 ·exact q2 s hs
theorem core_send(n:Nd)(tw:Int)(m:Msg):core (send n tw m)=core n:=by unfold send;split<;>rfl
theorem core_sendBs(tw:Int):∀(ds:List (List UInt8)) (n:Nd),core (ds.foldl (sendB tw) n)=core n
 |[],n=>rfl
 |d::ds,n=>by
  rw[List.foldl_cons,core_sendBs tw ds]
  unfold sendB
  split
  ·split
   ·exact core_send _ _ _
   ·rfl
  ·rfl
theorem core_serveCs(tw:Int):∀(l:List Crt) (n:Nd),core (l.foldl (Zg7 tw) n)=core n
 |[],n=>rfl
 |c::l,n=>by
  rw[List.foldl_cons,core_serveCs tw l]
  unfold Zg7
  rw[core_send,core_sendBs]
theorem core_serve(n:Nd)(tw r:Int):core (serve n tw r)=core n:=by
 unfold serve;split
 ·rfl
 ·exact core_serveCs _ _ _
theorem store_twice(n:Nd)(b:Bat)(w:Bool):(store (store n b true).1 b true).1=(store n b true).1:=by
 by_cases h1:0≤held n (bdR b)∨n.bats.length=800
 ·have:(store n b true).1=n:=by unfold store;rw[if_pos h1]
  rw[this,this]
 ·by_cases h2:Zfg n (batM b)=0
  ·have e:(store n b true).1=put (kept n (batM b)) b:=by unfold store;rw[if_neg h1,if_pos rfl,if_pos h2]
   rw[e]
   have hh:0≤held (put (kept n (batM b)) b) (bdR b):=by
    unfold held put;simp only
    rcases Int.lt_or_le (idxI (·==bdR b) ((kept n (batM b)).digs++[bdR b])) 0 with hlt|hle
    ·exfalso;have:=(Zj1 (·==bdR b) ((kept n (batM b)).digs++[bdR b]));rw[decide_eq_false (by omega)]at this;simp at this
    ·exact hle
   unfold store;rw[if_pos (.inl hh)]
  ·have:(store n b true).1=n:=by unfold store;rw[if_neg h1,if_pos rfl,if_neg h2]
   rw[this,this]
theorem insE_twice{c:Crt}(h:insE l c=0):insE (l++[c]) c≠0:=by
 intro h2;obtain⟨_,_,q,_⟩:=Zgh h2;unfold Zhx at q;rw[List.any_eq_false]at q;have:=q c (by simp);simp[Zew]at this
theorem insert_twice(n:Nd)(c:Crt):(insert (insert n c true).1 c true).1=(insert n c true).1:=by
 by_cases h1:insE n.dag c≠0
 ·have:(insert n c true).1=n:=by unfold insert;rw[if_pos h1]
  rw[this,this]
 ·by_cases h2:Zfg n (prfM c)=0
  ·have h0:=Classical.not_not.1 h1;have e:(insert n c true).1={ kept n (prfM c)with dag:=insL n.dag c }:=by unfold insert;rw[if_neg h1,if_pos rfl,if_pos h2]
   rw[e]
   have hh:insE ({ kept n (prfM c)with dag:=insL n.dag c }:Nd).dag c≠0:=by
    show insE (insL n.dag c) c≠0;rw[(Zgh h0).2.2.2.2.2];exact insE_twice h0
   show(insert _ c true).1=_;generalize ({ kept n (prfM c)with dag:=insL n.dag c }:Nd)=q at hh⊢;unfold insert;rw[if_pos hh]
  ·have:(insert n c true).1=n:=by unfold insert;rw[if_neg h1,if_pos rfl,if_neg h2]
   rw[this,this]
theorem cast_twice{l:List Slot}{h:Hdr}(e:Ze2 l h=0):Ze2 (Zc4 l h) h=0∧Zc4 (Zc4 l h) h=Zc4 l h∧Zcy (Zc4 l h) h=Zcy l h:=by
 obtain⟨q1,q2,q3,q4⟩:=Zg0 e;obtain⟨_,r2,r3,_⟩:=Zeq e;generalize Zc4 l h=L at q1 q2⊢
 have hE:Ze2 L h=0:=by
  have hs:0≤Zb1 L h.author h.round:=by
   rcases Int.lt_or_le (Zb1 L h.author h.round) 0 with hlt|hle
   ·exact absurd ⟨rfl,rfl⟩ (Zip.1 hlt _ q2)
   ·exact hle
  unfold Ze2;rw[if_neg (by rw[q1];decide),if_neg (by rw[r2];decide),if_pos hs];obtain⟨i,hi,e1,e2,e3⟩:=Znh hs;rw[e1,Int.toNat_natCast,List.getElem?_eq_getElem hi];have:=(Zc5.1 q1).2.2.eq_of (List.getElem_mem hi) q2 e2 e3;simp only[this];rw[if_pos];simp[Zcj]
 obtain⟨_,_,s3,s4⟩:=Zeq hE;refine⟨hE,?_,s3.trans r3.symm⟩
 rcases s4 with ⟨s,_⟩|⟨_,_,s⟩
 ·exact s
 ·exact absurd ⟨rfl,rfl⟩ (s _ q2)
theorem vote_core{h:Hdr}(e:(vote n h).2=true):Ze2 n.table h=0∧core (vote n h).1={ core n with table:=Zc4 n.table h }∧(vote n h).1.me=n.me∧(vote n h).1.up=n.up:=by
 unfold vote at e⊢;split at e
 ·cases e
 ·rename_i h1;have h1:=Classical.not_not.1 h1;rw[if_neg (by simp[h1])];split at e
  ·rename_i h2;rw[if_pos h2];split at e
   ·rename_i h3;rw[if_pos h3];exact⟨h1,rfl,rfl,rfl⟩
   ·cases e
  ·rename_i h2;rw[if_neg h2];exact⟨h1,rfl,rfl,rfl⟩
theorem vote_fail{h:Hdr}(e:(vote n h).2=false):(vote n h).1=n:=by
 unfold vote at e⊢;split
 ·rfl
 ·rename_i h1;rw[if_neg h1]at e;split at e
  ·rename_i h2;rw[if_pos h2];split at e
   ·cases e
   ·rename_i h3;rw[if_neg h3]
  ·cases e
theorem offer_twice(signs:List Sign)(rogue:Int)(n:Nd)(h:Hdr):core (offer signs rogue (offer signs rogue n h) h)=core (offer signs rogue n h):=by
 have hcong:∀(a b:Nd),core a=core b→a.me=b.me→(offer signs rogue a h=a∨∃v,v=(vote a h))→True:=fun _ _ _ _ _=>trivial
 by_cases h1:h.author=n.me∨signed signs rogue h.author ⟨h.author,h.round,hdR h⟩=false
 ·have:offer signs rogue n h=n:=by unfold offer;rw[if_pos h1]
  rw[this,this]
 ·by_cases h2:Zqc n.dag h≠0∨0<(Zu4 n.dag h).length
  ·have:offer signs rogue n h=n:=by unfold offer;rw[if_neg h1,if_pos h2]
   rw[this,this]
  ·by_cases h3:h.batches.any (fun b=>decide (held n b<0))=true
   ·have:offer signs rogue n h=n:=by unfold offer;rw[if_neg h1,if_neg h2,if_pos h3]
    rw[this,this]
   ·have e:offer signs rogue n h=if (vote n h).2 then send (vote n h).1 h.author (votM (Zcy n.table h))else(vote n h).1:=by unfold offer;rw[if_neg h1,if_neg h2,if_neg h3]
    cases hv:(vote n h).2 with
    |false =>
     have:offer signs rogue n h=n:=by rw[e,hv,vote_fail hv];rfl
     rw[this,this]
    |true =>
     have e':offer signs rogue n h=send (vote n h).1 h.author (votM (Zcy n.table h)):=by rw[e,hv];rfl
     obtain⟨c0,c1,c2,c3⟩:=vote_core hv;obtain⟨t1,t2,t3⟩:=cast_twice c0;have hcore:core (offer signs rogue n h)={ core n with table:=Zc4 n.table h }:=by rw[e',core_send,c1]
     have hme:(offer signs rogue n h).me=n.me:=by rw[e',(Zeo _ _ _).2.2.2.2.2.2,c2]
     generalize offer signs rogue n h=q at hcore hme⊢;have qd:q.dag=n.dag:=congrArg Co.dag hcore;have qg:q.digs=n.digs:=congrArg Co.digs hcore;have qt:q.table=Zc4 n.table h:=congrArg Co.table hcore;unfold offer;rw[if_neg (by rw[hme];exact h1),if_neg (by rw[qd];exact h2),if_neg (by unfold held at h3 ⊢;rw[qg];exact h3)]
     have ev:vote q h=({ q with table:=Zc4 q.table h },true):=by
      unfold vote;rw[if_neg (by rw[qt,t1];decide),if_neg (by rw[qt,t2];omega)]
     rw[ev];simp only[if_true];rw[core_send];show Co.mk q.bats q.digs (Zc4 q.table h) q.dag=core q;rw[qt,t2,←qt];rfl
theorem insert_voters(n:Nd)(c:Crt):(insert n c true).1.voters=n.voters∧(insert n c true).1.own=n.own∧(insert n c true).1.mine=n.mine∧(insert n c true).1.me=n.me:=by
 unfold insert;split
 ·exact⟨rfl,rfl,rfl,rfl⟩
 ·rw[if_pos rfl];split<;>exact⟨rfl,rfl,rfl,rfl⟩
theorem tell_voters(m:Msg):∀(l:List Int) (n:Nd),(l.foldl (Zcm m) n).voters=n.voters∧(l.foldl (Zcm m) n).mine=n.mine
 |[],n=>⟨rfl,rfl⟩
 |i::l,n=>by
  rw[List.foldl_cons]
  obtain⟨h1,h2⟩:=tell_voters m l (Zcm m n i)
  have:(Zcm m n i).voters=n.voters∧(Zcm m n i).mine=n.mine:=by
   unfold Zcm;split
   ·unfold send;split<;>exact⟨rfl,rfl⟩
   ·exact⟨rfl,rfl⟩
  exact⟨h1.trans this.1,h2.trans this.2⟩
theorem count_twice(signs:List Sign)(rogue:Int)(n:Nd)(src:Int)(s:Slot):count signs rogue (count signs rogue n src s) src s=count signs rogue n src s:=by
 cases ho:n.own with
 |none =>
  have:count signs rogue n src s=n:=by unfold count;rw[ho]
  rw[this,this]
 |some h =>
  by_cases h1:s.author≠n.me∨s.round≠h.round∨s.digest≠n.mine
  ·have:count signs rogue n src s=n:=by unfold count;rw[ho];simp only;rw[if_pos h1]
   rw[this,this]
  ·by_cases h2:Zd5 n n.me h.round=true∨src∈n.voters∨signed signs rogue src s=false
   ·have:count signs rogue n src s=n:=by unfold count;rw[ho];simp only;rw[if_neg h1,if_pos h2]
    rw[this,this]
   ·have key:∀q:Nd,q.own=some h→q.me=n.me→q.mine=n.mine→src∈q.voters→count signs rogue q src s=q:=fun q e1 e2 e3 e4=>by
     unfold count;rw[e1];simp only;rw[if_neg (by rw[e2,e3];exact h1),if_pos (.inr (.inl e4))]
    have hq:∃q,count signs rogue n src s=q∧q.own=some h∧q.me=n.me∧q.mine=n.mine∧src∈q.voters:=by
     refine⟨_,rfl,?_⟩;unfold count;rw[ho];simp only;rw[if_neg h1,if_neg h2];obtain⟨v1,v2,v3,v4⟩:=insert_voters {n with voters:=n.voters++[src] } ⟨h,Zdh (n.voters++[src])⟩;simp only[ho]at v1 v2 v3 v4;split
     ·exact⟨rfl,rfl,rfl,by simp⟩
     ·split
      ·unfold tell;obtain⟨w1,w2⟩:=tell_voters (prfM ⟨h,Zdh (n.voters++[src])⟩) all4 (insert {n with voters:=n.voters++[src] } ⟨h,Zdh (n.voters++[src])⟩ true).1;obtain⟨_,_,w3,_,w5⟩:=Zim (prfM ⟨h,Zdh (n.voters++[src])⟩) all4 (insert {n with voters:=n.voters++[src] } ⟨h,Zdh (n.voters++[src])⟩ true).1;simp only[ho]at w1 w2 w3 w5;exact⟨by rw[w3,v2],by rw[w5,v4],by rw[w2,v3],by rw[w1,v1];simp⟩
      ·exact⟨v2,v4,v3,by rw[v1];simp⟩
    obtain⟨q,e,e1,e2,e3,e4⟩:=hq;rw[e];exact key q e1 e2 e3 e4
theorem come1_twice(signs:List Sign)(rogue:Int)(n:Nd)(m:Msg):core (come1 signs rogue (come1 signs rogue n m) m)=core (come1 signs rogue n m):=by
 by_cases h1:m.kind=1
 ·have e:∀q,come1 signs rogue q m=(store q m.bat true).1:=fun q=>by unfold come1;rw[if_pos h1]
  rw[e,e,store_twice n m.bat true]
 ·by_cases h2:m.kind=2
  ·have e:∀q,come1 signs rogue q m=offer signs rogue q m.hdr:=fun q=>by unfold come1;rw[if_neg h1,if_pos h2]
   rw[e,e];exact offer_twice _ _ _ _
  ·by_cases h3:m.kind=3
   ·have e:∀q,come1 signs rogue q m=count signs rogue q m.src m.slt:=fun q=>by unfold come1;rw[if_neg h1,if_neg h2,if_pos h3]
    rw[e,e,count_twice]
   ·by_cases h4:m.kind=4
    ·by_cases hp:Zl4 signs rogue m.crt=0
     ·have e:∀q,come1 signs rogue q m=(insert q m.crt true).1:=fun q=>by unfold come1;rw[if_neg h1,if_neg h2,if_neg h3,if_pos h4,if_pos hp]
      rw[e,e,insert_twice]
     ·have e:∀q,come1 signs rogue q m=q:=fun q=>by unfold come1;rw[if_neg h1,if_neg h2,if_neg h3,if_pos h4,if_neg hp]
      rw[e,e]
    ·by_cases h5:m.kind=5
     ·have e:∀q,come1 signs rogue q m=serve q m.src m.round:=fun q=>by unfold come1;rw[if_neg h1,if_neg h2,if_neg h3,if_neg h4,if_pos h5]
      rw[e,e,core_serve,core_serve]
     ·have e:∀q,come1 signs rogue q m=q:=fun q=>by unfold come1;rw[if_neg h1,if_neg h2,if_neg h3,if_neg h4,if_neg h5]
      rw[e,e]
theorem insert_up(n:Nd)(c:Crt)(w:Bool):(insert n c w).1.up=n.up:=by
 unfold insert kept;split<;>(try split)<;>(try split)<;>rfl
theorem vote_up(n:Nd)(h:Hdr):(vote n h).1.up=n.up:=by
 unfold vote kept;split<;>(try split)<;>(try split)<;>rfl
theorem sendBs_up(tw:Int):∀(ds:List (List UInt8)) (n:Nd),(ds.foldl (sendB tw) n).up=n.up
 |[],n=>rfl
 |d::ds,n=>by
  rw[List.foldl_cons,sendBs_up tw ds]
  unfold sendB
  split
  ·split
   ·exact(Zeo _ _ _).2.2.2.2.1
   ·rfl
  ·rfl
theorem serveCs_up(tw:Int):∀(l:List Crt) (n:Nd),(l.foldl (Zg7 tw) n).up=n.up
 |[],n=>rfl
 |c::l,n=>by
  rw[List.foldl_cons,serveCs_up tw l]
  unfold Zg7
  rw[(Zeo _ _ _).2.2.2.2.1,sendBs_up]
theorem come1_up(signs:List Sign)(rogue:Int)(n:Nd)(m:Msg):(come1 signs rogue n m).up=n.up:=by
 unfold come1;split
 ·exact Zrb _ _ _
 ·split
  ·unfold offer;split
   ·rfl
   ·split
    ·rfl
    ·split
     ·rfl
     ·split
      ·rw[(Zeo _ _ _).2.2.2.2.1,vote_up]
      ·exact vote_up _ _
  ·split
   ·unfold count;split
    ·rfl
    ·split
     ·rfl
     ·split
      ·rfl
      ·split
       ·rfl
       ·split
        ·unfold tell;rw[(Zim _ _ _).1,insert_up]
        ·rw[insert_up]
   ·split
    ·split
     ·exact insert_up _ _ _
     ·rfl
    ·split
     ·unfold serve;split
      ·rfl
      ·exact serveCs_up _ _ _
     ·rfl
theorem pick_at(f:Ft)(h:i<f.away.length):pick f i=i:=by
 unfold pick;rw[Int.emod_eq_of_lt (by omega) (by omega)];rfl
theorem doA_take(h:i<f.away.length):doA f (takeA i)=come {f with away:=f.away.eraseIdx i } f.away[i].dst f.away[i]:=by
 unfold doA;rw[if_neg (kno rfl:¬(takeA i).kind=1),if_pos (.inl (show(takeA i).kind=4 from rfl))];rw[show(takeA i).pick=(i:Int) from rfl,pick_at f h,List.getElem?_eq_getElem h];simp only;rw[if_pos (show(takeA i).kind=4 from rfl)]
theorem doA_copy(h:i<f.away.length)(h4:f.away.length<400):doA f (copyA i)={ f with away:=f.away++[f.away[i]] }:=by
 unfold doA;rw[if_neg (kno rfl:¬(copyA i).kind=1),if_neg (show ¬((copyA i).kind=4∨(copyA i).kind=5) from fun e=>e.elim (kno rfl) (kno rfl)),if_pos (show(copyA i).kind=6 from rfl)];rw[show(copyA i).pick=(i:Int) from rfl,pick_at f h,List.getElem?_eq_getElem h];simp only;rw[if_pos h4]
theorem copies(h:WI f)(hi:i<f.away.length)(h4:f.away.length<400) :
 let g:=doA f (takeA i)
 let z:=doA (doA (doA f (copyA i)) (takeA i)) (takeA ((f.away.length-1:Nat):Int))
 g.away.length=z.away.length∧∀k,0≤k→k≤3→core (Zan g k)=core (Zan z k):=by
 intro g z
 have hmem:f.away[i]∈f.away:=List.getElem_mem hi
 obtain⟨hsrc,hdst⟩:=h.away _ hmem
 have eg:g=come {f with away:=f.away.eraseIdx i } f.away[i].dst f.away[i]:=doA_take hi
 have e1:doA (doA f (copyA i)) (takeA i)=come {f with away:=f.away.eraseIdx i++[f.away[i]] } f.away[i].dst f.away[i]:=by
  rw[doA_copy hi h4,doA_take (by simp;omega)]
  simp only
  rw[List.getElem_append_left hi,List.eraseIdx_append_of_lt_length hi]
 have hl:(f.away.eraseIdx i).length=f.away.length-1:=by rw[List.length_eraseIdx_of_lt hi]
 have ea:(come {f with away:=f.away.eraseIdx i++[f.away[i]] } f.away[i].dst f.away[i]).away=f.away.eraseIdx i++[f.away[i]]:=(Zdx _ _ _).2.2.1
 have ez:z=come {(come {f with away:=f.away.eraseIdx i++[f.away[i]] } f.away[i].dst f.away[i])with away:=f.away.eraseIdx i } f.away[i].dst f.away[i]:=by
  show doA (doA (doA f (copyA i)) (takeA i)) (takeA ((f.away.length-1:Nat):Int))=_
  rw[e1,doA_take (by rw[ea];simp;omega)]
  have e3:(come {f with away:=f.away.eraseIdx i++[f.away[i]] } f.away[i].dst f.away[i]).away[f.away.length-1]?=some f.away[i]:=by
   rw[ea,List.getElem?_append_right (by omega),hl]
   simp
  have e4:=List.getElem?_eq_some_iff.1 e3
  obtain⟨q1,q2⟩:=e4
  rw[q2,ea]
  congr 2
  rw[List.eraseIdx_append_of_length_le (by omega),hl]
  simp
 refine⟨?_,fun k h0 h3=>?_⟩
 ·rw[eg,ez,(Zdx _ _ _).2.2.1,(Zdx _ _ _).2.2.1]
 ·have hE:WI {f with away:=f.away.eraseIdx i }:=h.awayed fun x hx=>h.away x (List.mem_of_mem_eraseIdx hx)
  have hE2:WI {f with away:=f.away.eraseIdx i++[f.away[i]] }:=h.awayed fun x hx=>by
   rcases List.mem_append.1 hx with hx|hx
   ·exact h.away x (List.mem_of_mem_eraseIdx hx)
   ·rw[List.mem_singleton.1 hx];exact h.away _ hmem
  have hC:=hE2.come hdst hsrc
  have hC2:WI {(come {f with away:=f.away.eraseIdx i++[f.away[i]] } f.away[i].dst f.away[i])with away:=f.away.eraseIdx i }:=hC.awayed fun x hx=>h.away x (List.mem_of_mem_eraseIdx hx)
  rw[eg,ez,node_come hE hdst ⟨h0,h3⟩,node_come hC2 hdst ⟨h0,h3⟩]
  have hn1:∀q k,Zan {f with away:=q } k=Zan f k:=fun _ _=>rfl
  have hn2:∀q k,Zan {(come {f with away:=f.away.eraseIdx i++[f.away[i]] } f.away[i].dst f.away[i])with away:=q } k=Zan (come {f with away:=f.away.eraseIdx i++[f.away[i]] } f.away[i].dst f.away[i]) k:=fun _ _=>rfl
  rw[hn2 _ f.away[i].dst,hn2 _ k,node_come hE2 hdst hdst,node_come hE2 hdst ⟨h0,h3⟩]
  have hrg:(come {f with away:=f.away.eraseIdx i++[f.away[i]] } f.away[i].dst f.away[i]).rogue=f.rogue:=(Zdx _ _ _).1
  have hsg:(come {f with away:=f.away.eraseIdx i++[f.away[i]] } f.away[i].dst f.away[i]).signs=f.signs:=(Zdx _ _ _).2.1
  simp only[hn1,hrg,hsg,true_and]
  generalize f.away[i].dst=d
  generalize f.away[i]=m
  by_cases c:(Zan f d).up=true∧d≠f.rogue
  ·rw[if_pos c]
   by_cases e:k=d
   ·rw[if_pos ⟨e,c⟩,if_pos ⟨e,by rw[come1_up];exact c.1,c.2⟩,come1_twice]
   ·simp[e]
  ·simp[c]
def roundA:List At:=[workA 0,Zc1 0,workA 1,Zc1 1,workA 2,Zc1 2,workA 3,Zc1 3,flowA]
structure Waits (k:Int) (f g:Ft):Prop where
 up:(Zan f k).up=true→(Zan g k).up=true
 own:(Zan f k).own≠none→(Zan g k).own≠none
 out:(Zan g k).out=(Zan f k).out
theorem Waits.refl(k:Int)(f:Ft):Waits k f f:=⟨id,id,rfl⟩
theorem Waits.trans{k:Int}{g h:Ft}(a:Waits k f g)(b:Waits k g h):Waits k f h:=⟨fun q=>b.up (a.up q),fun q=>b.own (a.own q),b.out.trans a.out⟩
theorem Same.refl(p:Vw):Same p p:=⟨rfl,rfl,rfl,rfl⟩
theorem same_at{g:Ft}(hr:f.rogue=g.rogue){i:Int}(h:i≠f.rogue→core (Zan f i)=core (Zan g i)):Same (vwAt f i) (vwAt g i):=by
 unfold vwAt;rw[←hr];split
 ·exact Same.refl _
 ·rename_i h1;exact Zuj (h h1)
theorem copies_law{rogue:Int}(hr:inB rogue (-1) 3=true){l:List At}(h:Acts l)(hi:i<(run rogue l).away.length)(h4:(run rogue l).away.length<400) :
 (run rogue (l++[takeA i])).away.length=(run rogue (l++[copyA i,takeA i,takeA (((run rogue l).away.length-1:Nat):Int)])).away.length∧∀k:Int,0≤k→k≤3→Same (vwAt (run rogue (l++[takeA i])) k) (vwAt (run rogue (l++[copyA i,takeA i,takeA (((run rogue l).away.length-1:Nat):Int)])) k):=by
 have ey:run rogue (l++[takeA i])=doA (run rogue l) (takeA i):=by rw[Zul];rfl
 have ez:run rogue (l++[copyA i,takeA i,takeA (((run rogue l).away.length-1:Nat):Int)])=doA (doA (doA (run rogue l) (copyA i)) (takeA i)) (takeA (((run rogue l).away.length-1:Nat):Int)):=by rw[Zul];rfl
 obtain⟨q1,q2⟩:=copies (Zyo hr h) hi h4;rw[ey,ez];exact⟨q1,fun k h0 h3=>same_at (by rw[Zgi,Zgi,Zgi,Zgi]) (fun _=>q2 k h0 h3)⟩
end Fl
theorem RMsgs.at{n c:Nat}{xs:List Msg}(hr:RMsgs h (.slice A n c) xs):n=xs.length∧n≤c∧n*264≤140737488355328∧∀k (hk:k<xs.length),∃b o vt vb vp vd cb cp cv,A=some ⟨b,o,none⟩∧(∀j u,(msgC xs[k] vt vb vp vd cb cp cv).toList[j]?=some u→h ⟨b,o+k*19+j,none⟩=some u)∧RMsg h xs[k] vt vb vp vd cb cp cv:=by
 obtain⟨A',c',e,h1,_,h2,_,h3⟩:=hr;injection e with e1 e2 e3;subst e1 e2 e3;refine⟨rfl,h1,h2,fun k hk=>?_⟩;obtain⟨b,o,ea,hc⟩:=h3 (by omega);obtain⟨cs,hl,hcell,vt,vb,vp,vd,cb,cp,cv,rfl,r⟩:=hc k hk;exact⟨b,o,vt,vb,vp,vd,cb,cp,cv,ea,fun j u hu=>by rw[hcell j (by rw[←hl];exact(List.getElem?_eq_some_iff.1 hu).1)];exact hu,r⟩
namespace Fl
theorem OwnA.base{b b':Nat}{l:List At}(h:OwnA w b v l)(hb:b'≤b):OwnA w b' v l:=by
 obtain⟨h1,h2⟩:=h.own;refine⟨h1,?_⟩
 rcases h2 with h2|⟨g,cap,cur,h3,h4,h5⟩
 ·exact .inl h2
 ·exact .inr ⟨g,cap,cur,h3,Nat.le_trans hb h4,h5⟩
theorem ROc.mono:Mono ROc:=fun h h' cs x ⟨a,b,c,e,h1,h2,h3⟩ hle=>⟨a,b,c,e,RSl.mono RVw.mono h1 hle,RSl.mono RSign.mono h2 hle,h3.mono hle⟩
theorem rounds_len(k:Nat):((List.replicate k roundA).flatten).length=9*k:=by
 induction k with
 |zero=>rfl
 |succ k ih=>rw[List.replicate_succ,List.flatten_cons,List.length_append,ih];show 9+9*k=_;omega
theorem rng6{b p:Nat}{a0 a1 a2 a3 a4 a5:Value}(h0:h ⟨b,p,none⟩=some a0)(h1:h ⟨b,p+1,none⟩=some a1)(h2:h ⟨b,p+2,none⟩=some a2)(h3:h ⟨b,p+3,none⟩=some a3)(h4:h ⟨b,p+4,none⟩=some a4)(h5:h ⟨b,p+5,none⟩=some a5) :
 ∀(j:Nat) (u:Value),[a0,a1,a2,a3,a4,a5][j]?=some u→h ⟨b,p+j,none⟩=some u:=by
 intro j u hu
 match j,hu with
 |0,hu=>simp at hu;subst hu;exact h0
 |1,hu=>simp at hu;subst hu;exact h1
 |2,hu=>simp at hu;subst hu;exact h2
 |3,hu=>simp at hu;subst hu;exact h3
 |4,hu=>simp at hu;subst hu;exact h4
 |5,hu=>simp at hu;subst hu;exact h5
 |j+6,hu=>simp at hu
theorem topCopies_any(v:Value)(l:List At)(n p:Int)(w:World)(rl:RAts w.cell? v l)(hg:∀g∈l,GOk g)(hn:I64 n)(hp:I64 p)(hT:Tabs w.cell?) :
 Calls Tryz.prog 10 #[v,.int .i64 n,.int .i64 p] w fun e w'=>e=.returned (.bool true)∧Below w.heap.size w w':=by
 have h1:=bad_any n;have h2:=Zd2 p 400;have hr:=Zz0 n;have hpr:=Zb2 p (many:=400) (by decide);obtain⟨B,hB⟩:∃P,Hid (badI n=P):=⟨_,rfl⟩;obtain⟨i,hi⟩:∃P,Hid (Zcw p 400=P):=⟨_,rfl⟩;rw[hB.out]at h1 hr;rw[hi.out]at h2 hpr;have H1:=Lib.hid (fun w=>h1 w hn);have H2:=Lib.hid (fun w=>h2 w hp (by decide));have HG:=Lib.hid hg;obtain⟨k,rfl⟩:∃k:Nat,i=k:=⟨i.toNat,by omega⟩;have hkl:k<400:=by omega
 have Hr:=Lib.hid hr;obtain⟨A,lc,rfl,hf⟩:=id rl;clear h1 h2 hB hi hg hn hp hpr hf hr
 go_enter Tryz.func10,Tryz.ntmps10
 go_wp2_with fail
 refine(H1.out _).mono ?_;rintro e wz ⟨rfl,rfl⟩
 go_wp2_with fail
 refine(Zyn _ l 60 _ rl HG.out (by decide)).mono ?_;rintro e w1 ⟨v1,a,rfl,hb1,o1,ha,hal⟩;have Ha:=Lib.hid ha;obtain⟨A1,c1,rfl⟩:=o1.form;have r1:=o1.reads (by omega);have hz1:=hb1.size;clear o1 ha rl
 go_wp2_with fail
 refine(H2.out _).mono ?_;rintro e wz ⟨rfl,rfl⟩
 go_wp2_with fail
 refine(Zrj B _ a _ Hr.out r1 Ha.out (by omega) (hT.mono (Zaa hb1))).mono ?_;rintro e w3 ⟨X1,x1,X2,xn,x2,X3,xm,x3,rfl,hb3,-,-,-,-⟩;have hbl3:=hb1.trans (hb3.mono hz1);have hz3:=hbl3.size;have r3:=r1.mono RAt.mono (Zaa hb3);have hAX400:(run B a).away.length≤400:=(MI.fold a Ha.out.ok (MI.start Hr.out)).away;have Hlaw:=Lib.hid (fun(i:Nat) (h:i<(run B a).away.length)=>copies_law (i:=i) Hr.out Ha.out h);obtain⟨AX,hAX⟩:∃n:Nat,Hid ((run B a).away.length=n):=⟨_,rfl⟩;rw[hAX.out]at hAX400 Hlaw⊢;clear hAX r1
 go_upto_region 5 with fail
 refine Zo fun W4 hk4 hsz4 hb4=>?_
 clear hsz4;have hbl4:=hbl3.trans (hb4.mono hz3);have hz4:=hbl4.size;have g0:=hk4.cell 2;simp at g0
 by_cases h0:AX=0
 ·have h0I:(AX:Int)=0:=by omega
  rw[h0I]at g0 hk4;clear h0I h0 hAX400 Hlaw;go_wp2;go_ret;exact⟨rfl,hbl4⟩
 ·have h0I:¬(AX:Int)=0:=by omega
  have h0b:((AX:Int)==0)=false:=by simpa using h0
  have hI1:k%AX<AX:=Nat.mod_lt _ (by omega);have hI2:k%AX≤k:=Nat.mod_le _ _;have hI3:Int.tmod (k:Int) (AX:Int)=((k%AX:Nat):Int):=rfl;obtain⟨I,hI⟩:∃I:Nat,Hid (k%AX=I):=⟨_,rfl⟩;rw[hI.out]at hI1 hI2 hI3;obtain⟨J,hJ⟩:∃J:Nat,Hid (AX-1=J):=⟨_,rfl⟩;have hJ1:(AX:Int)-1=(J:Int):=by have:=hJ.out;omega
  have Hlaw:=Lib.hid (Hlaw.out I hI1);rw[hJ.out]at Hlaw;have HaxI:(AX:Int)≤400:=by omega
  have HtI:=Zy3 (p:=(I:Int)) ⟨by omega,by omega⟩;have HcI:=Zzr (p:=(I:Int)) ⟨by omega,by omega⟩;have HtJ:=Zy3 (p:=(J:Int)) ⟨by omega,by omega⟩;have Hac1:Hid (Acts [takeA I]):=Lib.hid (Acts.cons HtI Acts.nil);have Hac2:Hid (Acts [copyA I,takeA I,takeA J]):=Lib.hid (Acts.cons HcI (Acts.cons HtI (Acts.cons HtJ Acts.nil)));have r4:=r3.mono RAt.mono (Zaa hb4);have hba:=Zac W4 (.cells #[.int .i64 4,.int .i64 0,.int .i64 I,.string ⟨#[]⟩] 58);have hy:=RAts.ofBlk [takeA I] (Blk.new W4 58 #[.int .i64 4,.int .i64 0,.int .i64 I,.string ⟨#[]⟩]) rfl (by simp);clear HtI HcI HtJ hI hJ hI1 hI2 r3
  go_wp2_with fail
  refine(Zq3 _ _ a [takeA I] _ (r4.mono RAt.mono (Zaa hba)) hy (by simp;omega)).mono ?_;rintro e w5 ⟨v5,rfl,hb5,o5⟩;have hb45:=hba.trans (hb5.mono hba.size);have hbl5:=hbl4.trans (hb45.mono hz4);have hz5:=hbl5.size;have r5:=r4.mono RAt.mono (Zaa hb45);have hl5:(a++[takeA I]).length≤200:=by simp;omega
  have Ha5:Hid (Acts (a++[takeA I])):=Lib.hid (Ha.out.append Hac1.out);obtain⟨ls,has⟩:∃ls,Hid (a++[takeA I]=ls):=⟨_,rfl⟩;rw[has.out]at o5 hl5 Ha5 Hlaw;obtain⟨A5,c5,rfl⟩:=o5.form;have r5':=o5.reads (by omega);have hk45:=hk4.kept hb45;clear o5 hy hba has r4
  go_wp2_with fail
  refine(Zrj B _ ls _ Hr.out r5' Ha5.out (by omega) (hT.mono (Zaa hbl5))).mono ?_;rintro e w6 ⟨Y1,y1,Y2,yn,y2,Y3,ym,y3,rfl,hb6,-,-,ryv,-⟩;have hbl6:=hbl5.trans (hb6.mono hz5);have hz6:=hbl6.size;have r6:=r5.mono RAt.mono (Zaa hb6);have hk46:=hk45.kept hb6;obtain⟨AY,hAY⟩:∃n:Nat,Hid ((run B ls).away.length=n):=⟨_,rfl⟩;rw[hAY.out]at Hlaw⊢;clear hAY r5 r5' hk45 hk4
  go_upto_region 9 with fail
  refine Zo fun W7 hk7 hsz7 hb7=>?_
  clear hsz7;have hbl7:=hbl6.trans (hb7.mono hz6);have hz7:=hbl7.size;have hk47:=hk46.kept hb7;have g0:=hk47.cell 2;simp at g0;have r7:=r6.mono RAt.mono (Zaa hb7);have ry7:=ryv.mono RVw.mono (Zaa hb7);have hba:=Zac W7 (.cells #[.int .i64 6,.int .i64 0,.int .i64 I,.string ⟨#[]⟩,.int .i64 4,.int .i64 0,.int .i64 I,.string ⟨#[]⟩,.int .i64 4,.int .i64 0,.int .i64 J,.string ⟨#[]⟩] 58);have hy:=RAts.ofBlk [copyA I,takeA I,takeA J] (Blk.new W7 58 #[.int .i64 6,.int .i64 0,.int .i64 I,.string ⟨#[]⟩,.int .i64 4,.int .i64 0,.int .i64 I,.string ⟨#[]⟩,.int .i64 4,.int .i64 0,.int .i64 J,.string ⟨#[]⟩]) rfl (by simp);clear r6 ryv hk46
  go_wp2_with fail
  refine(Zq3 _ _ a [copyA I,takeA I,takeA J] _ (r7.mono RAt.mono (Zaa hba)) hy (by simp;omega)).mono ?_;rintro e w8 ⟨v8,rfl,hb8,o8⟩;have hb78:=hba.trans (hb8.mono hba.size);have hbl8:=hbl7.trans (hb78.mono hz7);have hz8:=hbl8.size;have hl8:(a++[copyA I,takeA I,takeA J]).length≤200:=by simp;omega
  have Ha8:Hid (Acts (a++[copyA I,takeA I,takeA J])):=Lib.hid (Ha.out.append Hac2.out);obtain⟨lt,hlt⟩:∃lt,Hid (a++[copyA I,takeA I,takeA J]=lt):=⟨_,rfl⟩;rw[hlt.out]at o8 hl8 Ha8 Hlaw;obtain⟨A8,c8,rfl⟩:=o8.form;have r8:=o8.reads (by omega);have hk48:=hk47.kept hb78;have hk78:=hk7.kept hb78;clear o8 hy hba hlt r7 g0
  go_wp2_with fail
  refine(Zrj B _ lt _ Hr.out r8 Ha8.out (by omega) (hT.mono (Zaa hbl8))).mono ?_;rintro e w9 ⟨Z1,z1,Z2,zn,z2,Z3,zm,z3,rfl,hb9,-,-,rzv,-⟩;have hbl9:=hbl8.trans (hb9.mono hz8);have hz9:=hbl9.size;have hb79:=hb78.trans (hb9.mono hb78.size);have ry9:=ry7.mono RVw.mono (Zaa hb79);have hk49:=hk48.kept hb9;have hk79:=hk78.kept hb9;obtain⟨AZ,hAZ⟩:∃n:Nat,Hid ((run B lt).away.length=n):=⟨_,rfl⟩;rw[hAZ.out]at Hlaw⊢;clear hAZ r8 ry7 hk48 hk78
  go_upto_region 10 with fail
  refine Zo fun WA hkA hszA hbA=>?_
  clear hszA;have hblA:=hbl9.trans (hbA.mono hz9);have hzA:=hblA.size;have hk4A:=hk49.kept hbA;have hk7A:=hk79.kept hbA;have g4:=hk4A.cell 2;have g7:=hk7A.cell 2;have gA:=hkA.cell 2;simp at g4 g7 gA
  by_cases h4:AX<400
  ·have h4I:¬400≤(AX:Int):=by omega
   obtain⟨e,hsame⟩:=Hlaw.out h4;subst e;have ryA:=ry9.mono RVw.mono (Zaa hbA);have rzA:=rzv.mono RVw.mono (Zaa hbA);have Hsame:=Lib.hid hsame;clear hsame Hlaw ry9 rzv hk49 hk79 h4;go_wp2
   go_loopw [17] (fun i wr=>∃j:Nat,j≤4∧i=.int .i64 j∧Below WA.heap.size WA wr) (fun i _=>4-(intOf i).toNat)
   case atStart=>exact⟨0,by omega,rfl,Below.refl _ _⟩
   case round =>
    obtain⟨j,hj,rfl,hbr⟩:=hrel;have hzr:=hbr.size
    by_cases hlt:j<4
    ·have g1:=(hk7A.kept hbr).cell 0;have g2:=(hkA.kept hbr).cell 0;simp at g1 g2;have qr:=Zaa hbr;have HS:=Hsame.out j (by omega) (by omega);obtain⟨-,hx⟩:=RVws.at (ryA.mono RVw.mono qr);obtain⟨-,hy⟩:=RVws.at (rzA.mono RVw.mono qr);obtain⟨b1,o1,c1,e1,t1,p1,rfl,x0,xr,xc,xb,xv,xp,rc1,rb1,rv1,rp1⟩:=hx j (by rw[Zes];exact hlt);obtain⟨b2,o2,c2,e2,t2,p2,rfl,y0,yr,yc,yb,yv,yp,rc2,rb2,rv2,rp2⟩:=hy j (by rw[Zes];exact hlt);rw[Zwl]at x0 xr rc1 rb1 rv1 rp1 y0 yr rc2 rb2 rv2 rp2;generalize vwAt (run B ls) j=P at *;generalize vwAt (run B lt) j=Q at *;have HS:=Lib.hid HS;have hkI:(j:Int)<4:=by omega
     have HXR:=Lib.hid (rng6 x0 xr xc xb xv xp);have HYR:=Lib.hid (rng6 y0 yr yc yb yv yp);have HXC:=Lib.hid (And.intro rc1 (And.intro rb1 (And.intro rv1 rp1)));have HYC:=Lib.hid (And.intro rc2 (And.intro rb2 (And.intro rv2 rp2)));obtain⟨cA1,cc1,rfl,-⟩:=id rc1;obtain⟨bA1,bc1,rfl,-⟩:=id rb1;obtain⟨vA1,vc1,rfl,-⟩:=id rv1;obtain⟨pA1,pc1,rfl,-⟩:=id rp1;obtain⟨cA2,cc2,rfl,-⟩:=id rc2;obtain⟨bA2,bc2,rfl,-⟩:=id rb2;obtain⟨vA2,vc2,rfl,-⟩:=id rv2;obtain⟨pA2,pc2,rfl,-⟩:=id rp2;clear rc1 rb1 rv1 rp1 rc2 rb2 rv2 rp2 hx hy;clear xr xc xb xv xp yr yc yb yv yp x0 y0 g4 g7 gA
     go_wp2_with fail
     refine Zr [] (.q 0 (.q 1 (.q 2 (.q 3 (.q 4 (.q 5 (.q 6 (.q 7 (.q 8 (.q 9 (.l 10 (.q 11 .nil)))))))))))) fun W hS=>?_
     repeat((first|refine pq (h:=⟨_,fun w' hS=>by(have k1:=Zaa hS _ _ g1;have k2:=Zaa hS _ _ g2;go_simp;exact rfl),?_⟩)|refine Zq ?_);simp only[sx])
     refine pl_q (by assumption) rfl rfl ?_;apply Exists.intro;refine⟨fun w' hS=>Zmn 43 _ rfl _ _ rfl _ _ (fun j u hu=>Zaa hS _ _ (HXR.out j u hu)) Tryz.underlying43 rfl (by kernel_rfl),?_⟩;simp only[List.getElem_toArray,List.getElem_cons_zero,List.getElem_cons_succ,Act.put,List.setIfInBounds_toArray,List.set_cons_zero,List.set_cons_succ]
     repeat((first|refine pq (h:=⟨_,fun w' hS=>by(have k1:=Zaa hS _ _ g1;have k2:=Zaa hS _ _ g2;go_simp;exact rfl),?_⟩)|refine Zq ?_);simp only[sx])
     refine pl_q (by assumption) rfl rfl ?_;apply Exists.intro;refine⟨fun w' hS=>Zmn 43 _ rfl _ _ rfl _ _ (fun j u hu=>Zaa hS _ _ (HYR.out j u hu)) Tryz.underlying43 rfl (by kernel_rfl),?_⟩;simp only[List.getElem_toArray,List.getElem_cons_zero,List.getElem_cons_succ,Act.put,List.setIfInBounds_toArray,List.set_cons_zero,List.set_cons_succ]
     repeat(refine Zq ?_;simp only[sx])
     have qW:=Zaa hS;refine Zd fun K hK=>?_
     try simp only[sy]
     go_simp;obtain⟨s1,s2,s3,s4⟩:=HS.out;obtain⟨rc1,rb1,rv1,-⟩:=HXC.out;obtain⟨rc2,rb2,rv2,-⟩:=HYC.out;rw[←s1];refine(Kp.sameKnown_any P.up Q.up P.round _ _ _ _ _ _ _ _ P.certs P.bats P.votes _ (rc1.mono RCrt.mono qW) (rb1.mono RBat.mono qW) (rv1.mono RSlot.mono qW) (by rw[s2];exact rc2.mono RCrt.mono qW) (by rw[s3];exact rb2.mono RBat.mono qW) (by rw[s4];exact rv2.mono RSlot.mono qW) ⟨_,_,_,rfl⟩ ⟨_,_,_,rfl⟩).mono ?_;rintro e w10 ⟨rfl,hb10⟩;clear s1 s2 s3 s4 rc1 rb1 rv1 rc2 rb2 rv2;refine hK.out _ _ (hS.trans (hb10.mono hS.size)) fun hS=>?_
     clear hK K
     try simp only[sx]
     repeat(refine Zq ?_;simp only[sx])
     refine Zah ?_;go_wp2;go_roundw
     case rel=>exact⟨j+1,by omega,by go_num,hbr.trans (hS.mono hzr)⟩
     case measure=>simp[intOf];omega
    ·have hkI:¬(j:Int)<4:=by omega
     go_wp2;go_ret;exact⟨rfl,hblA.trans (hbr.mono hzA)⟩
  ·have h4I:400≤(AX:Int):=by omega
   clear Hlaw;go_wp2;go_ret;exact⟨rfl,hblA⟩
theorem topCopies_open{H:Type}{enc:TypeId×Value→H}(W:World)(hT:Tabs W.cell?){base:Nat}{v1 v2:Value}{d d1 d2:DataW H}{p p1 p2:List MemPlace}(hval:Value.okWide Tryz.prog W .any base 22 v)(h:DataW.Trod enc Tryz.prog W 0 (fun _=>true) true 22 v d p)(hw:∀n∈DataW.weights Tryz.prog 22 d,n≤reachBytes)(hval1:Value.okWide Tryz.prog W .any base 3 v1)(h1:DataW.Trod enc Tryz.prog W 0 (fun _=>true) true 3 v1 d1 p1)(hw1:∀n∈DataW.weights Tryz.prog 3 d1,n≤reachBytes)(hval2:Value.okWide Tryz.prog W .any base 3 v2)(h2:DataW.Trod enc Tryz.prog W 0 (fun _=>true) true 3 v2 d2 p2)(hw2:∀n∈DataW.weights Tryz.prog 3 d2,n≤reachBytes):Calls Tryz.prog 10 #[v,v1,v2] W fun e w'=>e=.returned (.bool true)∧Below W.heap.size W w':=by
 obtain⟨l,hl,hg⟩:=Zsz hval h hw;obtain⟨n,rfl,hn⟩:=Zrm hval1 h1 hw1;obtain⟨m,rfl,hm⟩:=Zrm hval2 h2 hw2;exact topCopies_any _ l n m _ hl hg hn hm hT
end Fl
open Fl in
theorem topCopies_lifted(os:Os)(started:os.Started)(H:Type)(enc:TypeId×Value→H) :
 ReturnsInHanded {} Tryz.checked os 10 .any (fun w args=>(Rows.topCopiesSpec.pre enc Tryz.prog Tryz.f10 [] false w args∧laidMetH Tryz.prog Zvd w)∧sizedMet enc Tryz.prog Tryz.f10 (OpenSpec.ofChange Rows.topCopiesSpec) false w args) (Rows.topCopiesSpec.post enc Tryz.prog Tryz.f10 false true false false):=by
 refine returnsInHanded_of_change_and (C:=Tryz.checked) (X:=fun w _=>laidMetH Tryz.prog Zvd w) (fun _ _ _ hh h=>h.of_heap hh) own_ started (by kernel_rfl) Tryz.func10
  (ChangeSpec.witness_shaped (enc:=enc) (C:=Tryz.checked) (os:=os) (X:=fun w _=>laidMetH Tryz.prog Zvd w) false (World.doorLaid Tryz.prog 400 os) #[.slice none 0 0,.int .i64 0,.int .i64 0] 8 rfl (World.shaped_of_RefB (by kernel_rfl) (by kernel_rfl)) (by kernel_rfl) (by kernel_rfl) (by kernel_rfl) (Zx4 os _)) ?_
 intro W base args ds gs before hval0 hW _ hsz hL _;have hval:∀(j:Nat) t v,Tryz.f10.params[j]?=some t→args[j]?=some v→Value.okWide Tryz.prog W .any base t v:=hval0;have hW':=hW;obtain⟨p,q,hA,hV,rfl,hfz,hnd⟩:=hW;obtain⟨rfl,rfl⟩:=trodVars_none hV;have hA:DataW.TrodAll enc Tryz.prog W 0 (fun _=>true) true Tryz.f10.params.toList args.toList ds p:=hA;rw[Tryz.params10]at hA hval hsz;obtain⟨v0,v1,v2,d0,d1,d2,p0,p1,p2,rfl,rfl,rfl,h0,h1,h2⟩:=trodAll_three hA;have hs0:∀n∈DataW.weights Tryz.prog _ d0,n≤reachBytes:=fun n hn=>by simpa using List.all_eq_true.1 hsz n (DataW.weights_mem_each (j:=0) rfl rfl n hn)
 have hs1:∀n∈DataW.weights Tryz.prog _ d1,n≤reachBytes:=fun n hn=>by simpa using List.all_eq_true.1 hsz n (DataW.weights_mem_each (j:=1) rfl rfl n hn)
 have hs2:∀n∈DataW.weights Tryz.prog _ d2,n≤reachBytes:=fun n hn=>by simpa using List.all_eq_true.1 hsz n (DataW.weights_mem_each (j:=2) rfl rfl n hn)
 refine(topCopies_open W (Zzg hL) (hval 0 _ _ rfl rfl) h0 hs0 (hval 1 _ _ rfl rfl) h1 hs1 (hval 2 _ _ rfl rfl) h2 hs2).mono fun e W' ⟨he,hb⟩=>?_
 exact Zva Zzk (b:=4) rfl Tryz.underlying4 rfl (Zur _ (by kernel_rfl)) rfl hW' he hb
theorem topCopies_holds:Rows.TopCopiesSaid :=
 OpenClaim.holds_of_wide 10 Tryz.f10 rfl rfl rfl rfl rfl rfl rfl ⟨rfl,rfl,rfl,rfl,rfl⟩ rfl rfl rfl rfl rfl (by kernel_rfl) Tryz.func10 (by kernel_rfl)
  (of_decide_eq_true (by kernel_rfl)) (by unfold Func.isWrapper;first|(rw[if_pos (by decide +kernel)];kernel_rfl)|(rw[if_neg (by decide +kernel)];exact⟨rfl,rfl⟩))
  (fun os started H enc _=>topCopies_lifted os started H enc)
theorem topCopies_card:Rows.TopCopiesCardSaid :=
 Claim7.holds_tied_plain_at .later [] [.widerDeep,.data,.data] true Rows.topCopiesCard.stood.harness false
  topCopies_holds (fun _ h=>by cases h) (by kernel_rfl) (fun _ h=>by cases h) topCopies_row_tie rfl ⟨rfl,rfl⟩ (by kernel_rfl) rfl
  (fun f fn hf hfn=>by
   obtain rfl : f = 10 := Option.some.inj ((show Tryz.prog.funcNamed "sheaves/sheavestop.TopCopies" = some 10 by kernel_rfl).symm.trans hf) |>.symm
   obtain rfl:fn=Tryz.f10:=(Option.some.inj (Tryz.func10.symm.trans hfn)).symm
   exact⟨by kernel_rfl,fun j t ht=>by
    have hall:(Tryz.f10.params.toList.all fun u=> !Tryz.prog.wantsStandIn u)=true:=by kernel_rfl
    have:=List.all_eq_true.1 hall t (by simpa using Array.mem_of_getElem? ht)
    exact(show Tryz.prog.wantsStandIn t=false by simpa using this)⟩)
  (by kernel_rfl)
end Go.Proofs.YtinibgklgehdpaaGreatDoor
