/- A part of what the last text stands on. -/
import Derived.Test.YtinibgklgehdpaaGreatDoorRows
import Derived.WalkKit
import Derived.ProofKit
import Derived.OpenShut
import Derived.IntWalk
import Derived.BigQuiet
import Derived.Deep.QuietTactic
import Derived.Outline
import Derived.Lib.QuietBelow
import Derived.Lib.Hide
import Derived.Deep.RegionHeld3
import Derived.Laws.OwnMore
import Derived.SizedLaws
import Derived.Deep.Slices
import Derived.Lib.ConvBytes
import Derived.Laws.BytesArg
import Derived.Shelf.Abstract
import Derived.Deep.DeepCutAuto
import Derived.Deep.CutBlock
import Derived.Lib.EndianBits
import Derived.Laws.BitsLemmas
import Derived.WalkSpells
import Derived.Deep.MidRow
import Derived.StringKeys
import Derived.Maps.OwnSet
import Derived.Maps.AppendAt
import Derived.Laws.Strings
import Derived.Shelf.SlSortCmp.WholeK
import Derived.Shelf.SlSortCmp.NoneTotal
import Derived.Sort.OwnSortedInts
import Derived.RangeFuncBox
import Derived.RangeFuncLeaves
import Derived.OwnWalkIn
import Derived.TacticsInMore
import Derived.LoopNIn
import Derived.LoopIn
import Derived.Shelf.Small.Bits
import Derived.Shelf.Strconv.Itoa0
import Derived.Shelf.Sort.Plain
import Derived.Shelf.Slices.Turned
import Derived.Ground.Names2Prog
import Derived.Shelf.Slices.SearchI
import Derived.Shelf.Slices.In.SortNone
import Derived.Test.YtinibgklgehdpaaGreatDoorProg
import Derived.Shelf.SlGeneric
import Derived.Ground.SlsfProg
import Derived.OwnWalk
import Derived.LaidMore
import Derived.Stop.Joined
import Derived.Test.YtinibgklgehdpaaGreatDoorCards
import Derived.Test.YtinibgklgehdpaaGreatDoorTie
import Derived.SevenTiedAt
import Derived.Carry
import Derived.Test.YtinibgklgehdpaaGreatDoorK41
namespace Go.Proofs.YtinibgklgehdpaaGreatDoor
open Go.ChangeShapes Go.WideShapes Go.ChangeAt Go.RowKit Qa Qb Qc
set_option linter.all false
set_option maxHeartbeats 20000000
set_option maxRecDepth 100000
variable{P:Program}{w w' W wr:World}{ops:Array Oper}{rest:List Oper}{Q:Exit→Act→World→Prop}{K:Act→World→Prop}{S:World→Prop}{v:Value}{A:Option Addr}{h:View}{e:TypeId}{k i j g sz bs:Nat}{f:Fl.Ft}{α:Type}{xs:List α}{R:View→List Value→α→Prop}{l:List Crt}
theorem OwnVec.drew{enc:α→Value}{b:Nat}(h:OwnVec enc e w b v xs):OwnVec enc e w.drew b v xs:=h.kept (Zad w)
section
variable {G:List Nat} {a b c w w':World}
theorem Chg.alloc(h:Chg G a b)(o:Obj):Chg G a (b.alloc o):=h.trans (.of_below (Zac b o) (Nat.le_refl _))
theorem Chg.frozen(h:Chg G a b)(k o:Nat)(hk:k<a.heap.size)(hn:k∉G):b.frozen? ⟨k,o,none⟩=a.frozen? ⟨k,o,none⟩:=World.frozen?_of_block (h.block k hk hn)
theorem OwnVec.chg{enc:α→Value}{B:Nat}(h:OwnVec enc e a B v xs)(hc:Chg G a b)(hG:∀k,v.ownBlock=some k→k∉G):OwnVec enc e b B v xs:=by
 obtain⟨h1,h2⟩:=h.own;refine⟨h1,?_⟩
 rcases h2 with h2|⟨g,cap,cur,h3,h4,h5,h6⟩
 ·exact .inl h2
 ·refine .inr ⟨g,cap,cur,h3,h4,?_,h6⟩;have hlt:g<a.heap.size:=(Array.getElem?_eq_some_iff.1 h5).1;rw[hc.block g hlt (hG g (by rw[h3];rfl))];exact h5
end
theorem OwnVec.at{α:Type}{enc:α→Value}{e:TypeId}{w:World}{B g n c:Nat}{xs:List α}(h:OwnVec enc e w B (.slice (some ⟨g,0,none⟩) n c) xs)(i:Nat)(hi:i<xs.length):w.cell? ⟨g,i,none⟩=some (enc xs[i]):=by
 have:=h.own.cells (g:=g) rfl i (enc xs[i]) (by simp[hi]);rw[Zbs,Nat.zero_add]at this;exact this
theorem OwnVec.there{enc:α→Value}{B:Nat}(h:OwnVec enc e w B v xs)(hp:0<xs.length):∃g c,v=.slice (some ⟨g,0,none⟩) xs.length c∧B≤g∧g<w.heap.size:=by
 obtain⟨_,h2⟩:=h.own
 rcases h2 with ⟨rfl,h2⟩|⟨g,cap,cur,rfl,h3,h4,_⟩
 ·omega
 ·exact⟨g,cap,rfl,h3,(Array.getElem?_eq_some_iff.1 h4).1⟩
namespace Fl
section
variable {T T':Nat×Nat→Prop} {o o' o2:Own} {w w' w2:World}
theorem Fr.drew(hl:Lim o w):Fr T o w o w.drew:=.of_below hl (Zad w)
variable {α:Type} {sz:Nat} {R:View→List Value→α→Prop} {e:TypeId} {v:Value} {xs:List α} {t:Nat×Nat}
theorem Row.data(hR:Mono R)(h:Row o t sz R e w v xs)(hbs:xs.length*bs≤140737488355328){o2:Own}(hv:VLe (Zas o w) (Zas o2 w))(hz:∀g,v.ownBlock=some g→o2 g=none):RSl sz R bs (Zas o2 w) v xs:=by
 obtain⟨css,h1,h2,h3⟩:=h.own
 have hlen:∀i (hi:i<css.length),css[i].length=sz:=fun i hi=>by
  obtain⟨cs,q1,q2,_⟩:=h3 i (by omega);rw[List.getElem?_eq_getElem hi]at q1;injection q1 with q1;rw[q1];exact q2
 rcases id h1.2 with ⟨rfl,h0⟩|⟨g,cap,cur,rfl,k2,k3,k4,k5,k6,k7⟩
 ·have:xs=[]:=List.eq_nil_of_length_eq_zero h0;subst this;exact⟨none,0,rfl,Nat.le_refl _,Nat.zero_le _,by simp,fun _=>rfl,fun h=>by simp at h⟩
 ·refine⟨_,cap,rfl,k4,k5,hbs,(fun h=>by cases h),fun hp=>⟨g,0,rfl,fun i hi=>?_⟩⟩;obtain⟨cs,q1,q2,q3⟩:=h3 i hi;refine⟨cs,q2,fun j hj=>?_,hR _ _ _ _ q3 hv⟩;have hf:=Zgv hlen q1 hj;have hj':cs[j]?=some (cs[j]'(by omega)):=List.getElem?_eq_getElem _;rw[hj'];have:=h1.cells (g:=g) rfl (i*sz+j) _ (hf.trans hj');rw[Zbs]at this;unfold Zas;rw[if_neg (by rw[hz g rfl];simp)];rwa[Nat.zero_add]at this⊢
end
end Fl
theorem Keeps.refl(w:World):Keeps w w:=fun _ _ _ _ h=>h
section
variable {P:Program} {ops:Array Oper} {Q:Exit→Act→World→Prop} {S:World→Prop}
theorem wpPlanK_skip{o:Oper}{q:Bool}{rest:List (Nat×Bool)}{a:Act}(hS:S w)(ho:ops[i]?=some o)(hw:Region.wanted o (yielded ops a.tmps)=false)(h:Zfe P ops Q S K rest (a.put o.dst undef) w):Zfe P ops Q S K ((i,q)::rest) a w:=by
 cases q with
 |true=>exact⟨o,undef,ho,.inr ⟨hw,rfl⟩,h⟩
 |false =>
  show wpOp _ _ _ _ _ _ _;unfold wpOp;simp only[ho,hw];exact⟨hS,fun _=>h⟩
end
def RHdr(h:View)(cs:List Value)(x:Hdr):Prop:=∃vb vp,cs=[.int .i64 x.author,.int .i64 x.round,vb,vp]∧RDigs h vb x.batches∧RDigs h vp x.parents
theorem RHdr.mono:Mono RHdr:=fun h h' cs x ⟨vb,vp,e,h1,h2⟩ hle=>⟨vb,vp,e,h1.mono RDig.mono hle,h2.mono RDig.mono hle⟩
theorem RCrt.zero(h:View):RCrt h [.int .i64 0,.int .i64 0,.slice none 0 0,.slice none 0 0,.slice none 0 0] zeroC:=⟨_,_,_,rfl,RDigs.nil _,RDigs.nil _,RVec.nil _ _ _⟩
theorem RCrts.of_own{b:Nat}{xs:List Crt}{bb:Nat}(h:OwnSl 5 (RFrom bb RCrt) 64 w b v xs)(hl:xs.length*88≤140737488355328):RCrts w.cell? v xs :=
 RSl.weak (fun h cs x hr=>RCrt.mono _ _ _ _ hr (View.from_le _ _)) (h.reads (RFrom.mono RCrt.mono) hl)
theorem RSlots.form{xs:List Slot}(hr:RSlots h v xs):∃A c,v=.slice A xs.length c:=by
 obtain⟨A,c,e,_⟩:=hr;exact⟨A,c,e⟩
theorem GrL.blk{v':Value}(h:GrL w w' v v'){t:TypeId}{cs:Array Value}(hb:Blk w g t cs)(hne:some g≠v.ownBlock):Blk w' g t cs:=hb.grown h.gr hne
structure SkR (b:List UInt8) (at_:Nat) (s:RS):Prop where
 over:s.2=decide (b.length<at_)
 rest:s.2=false→s.1=b.drop at_
theorem SkR.start(b:List UInt8):SkR b 0 (b,false):=⟨by simp,fun _=>by simp⟩
theorem SkR.next{b:List UInt8}{a n:Nat}{s:RS}(h:SkR b a s):SkR b (a+n) (tkS n s):=by
 obtain⟨l,sh⟩:=s;obtain⟨h1,h2⟩:=h;simp only at h1 h2;unfold tkS;cases sh
 ·have h2:=h2 rfl;have h1:¬b.length<a:=by simpa using h1.symm
  subst h2;simp only[Bool.false_or,decide_eq_true_eq,List.length_drop];split
  ·exact⟨by simp;omega,fun h=>by cases h⟩
  ·refine⟨by simp;omega,fun _=>by simp[List.drop_drop]⟩
 ·have h1:b.length<a:=by simpa using h1.symm
  simp only[Bool.true_or,if_true];exact⟨by simp;omega,fun h=>by cases h⟩
theorem SkR.none{b:List UInt8}{a n:Nat}{s:RS}(h:SkR b a s)(ho:b.length<a+n):tkB n s=[]:=by
 obtain⟨l,sh⟩:=s;obtain⟨h1,h2⟩:=h;simp only at h1 h2;unfold tkB;rw[if_pos];cases sh
 ·rw[h2 rfl];have h1:¬b.length<a:=by simpa using h1.symm
  simp;omega
 ·rfl
theorem SkR.short{b:List UInt8}{a n:Nat}{s:RS}(h:SkR b a s):(tkS n s).2=decide (b.length<a+n):=h.next.over
theorem RBats.form{xs:List Bat}(hr:RBats h v xs):∃A c,v=.slice A xs.length c:=by
 obtain⟨A,c,e,_⟩:=hr;exact⟨A,c,e⟩
theorem RBats.len{xs:List Bat}(hr:RBats h v xs):xs.length*40≤140737488355328:=by
 obtain⟨_,_,_,_,_,h,_⟩:=hr;exact h
section
variable {P:Program} {ops:Array Oper} {Q:Exit→Act→World→Prop} {S:World→Prop} {C:List Nat}
theorem plt_skip{o:Oper}{p:PlT}{a:Act}(hS:S w)(ho:ops[i]?=some o)(hw:Region.wanted o (yielded ops a.tmps)=false)(h:p.wp P ops Q S C (a.put o.dst undef) w):PlT.wp P ops Q S C (.q i p) a w:=⟨o,undef,ho,.inr ⟨hw,rfl⟩,hS,h⟩
end
namespace Fl
theorem runE_zero{rogue:Int}{l:List At}(h:runE rogue l=0):inB rogue (-1) 3=true∧l.length≤3000∧∀a∈l,actE a=0:=by
 unfold runE at h;split at h
 ·cases h
 ·rename_i h1;split at h
  ·cases h
  ·refine⟨by simpa using h1,by omega,fun a ha=>?_⟩;split at h
   ·rename_i b hb;have:=List.find?_some hb;simp[h]at this
   ·rename_i hn;rw[List.find?_eq_none]at hn;simpa using hn a ha
theorem WI.run{rogue:Int}{l:List At}(h:runE rogue l=0):WI (run rogue l):=by
 obtain⟨h1,_,h3⟩:=runE_zero h;exact WI.fold l (fun a ha=>Zr2 (h3 a ha)) (WI.start h1)
theorem voters_most{vs:List Int}{a r:Int}{b p:List (List UInt8)}(h:Zg4 a r b p vs=0):∃e,∀v,0≤v→v≤3→v≠e→v∈vs:=by
 obtain⟨_,h3,_,hv⟩:=certF_zero h
 have hrange:∀v∈vs,0≤v∧v≤3:=fun v hv'=>by
  obtain⟨i,hi,rfl⟩:=List.getElem_of_mem hv';have:=Zsd hi (hv i hi);omega
 have hstep:∀i (hi:i+1<vs.length),vs[i]<vs[i+1]:=fun i hi=>(Zsd hi (hv (i+1) hi)).2.2 i rfl (by omega)
 have h01:vs[0]<vs[1]:=hstep 0 (by omega);have h12:vs[1]<vs[2]:=hstep 1 (by omega);have r0:=hrange vs[0] (List.getElem_mem _);have r2:=hrange vs[2] (List.getElem_mem _);have m0:vs[0]∈vs:=List.getElem_mem _;have m1:vs[1]∈vs:=List.getElem_mem _;have m2:vs[2]∈vs:=List.getElem_mem _;refine⟨6-vs[0]-vs[1]-vs[2],fun v h0 h3 hne=>?_⟩;have:v=vs[0]∨v=vs[1]∨v=vs[2]:=by omega
 rcases this with e|e|e<;>rw[e]<;>assumption
theorem Uniq.eq_of{l:List Slot}(h:Uniq l){a b:Slot}(ha:a∈l)(hb:b∈l)(e1:a.author=b.author)(e2:a.round=b.round):a=b:=by
 obtain⟨i,hi,rfl⟩:=List.getElem_of_mem ha;obtain⟨j,hj,rfl⟩:=List.getElem_of_mem hb;have hp:=List.pairwise_iff_getElem.1 h
 rcases Nat.lt_trichotomy i j with hij|hij|hij
 ·exact absurd ⟨e1,e2⟩ (hp i j hi hj hij)
 ·subst hij;rfl
 ·exact absurd ⟨e1.symm,e2.symm⟩ (hp j i hj hi hij)
theorem one_digest(h:WI f){i k:Int}(hi:0≤i∧i≤3)(hk:0≤k∧k≤3){x y:Crt}(hx:x∈(Zan f i).dag)(hy:y∈(Zan f k).dag)(ha:x.hdr.author=y.hdr.author)(hr:x.hdr.round=y.hdr.round):hD x.hdr=hD y.hdr:=by
 obtain⟨m1,j1,p1,_⟩:=h.node i hi.1 hi.2;obtain⟨m2,j2,p2,_⟩:=h.node k hk.1 hk.2;have qx:=(Ziu h.si).1 (p1.co.prov x (by rw[←p1.dag];exact hx));have qy:=(Ziu h.si).1 (p2.co.prov y (by rw[←p2.dag];exact hy));obtain⟨e1,s1⟩:=voters_most qx.1;obtain⟨e2,s2⟩:=voters_most qy.1
 obtain⟨v,v0,v3,n1,n2,n3⟩:∃v:Int,0≤v∧v≤3∧v≠e1∧v≠e2∧v≠f.rogue:=by
  by_cases c0:(0:Int)≠e1∧(0:Int)≠e2∧(0:Int)≠f.rogue
  ·exact⟨0,by decide,by decide,c0⟩
  ·by_cases c1:(1:Int)≠e1∧(1:Int)≠e2∧(1:Int)≠f.rogue
   ·exact⟨1,by decide,by decide,c1⟩
   ·by_cases c2:(2:Int)≠e1∧(2:Int)≠e2∧(2:Int)≠f.rogue
    ·exact⟨2,by decide,by decide,c2⟩
    ·exact⟨3,by decide,by decide,by omega⟩
 have w1:=(qx.2 v (List.mem_append_left _ (s1 v v0 v3 n1))).resolve_left n3;have w2:=(qy.2 v (List.mem_append_left _ (s2 v v0 v3 n2))).resolve_left n3;obtain⟨ms,j,p,q⟩:=h.node v v0 v3;have t1:=q _ w1 rfl;have t2:=q _ w2 rfl;have hu:=(Zc5.1 (Zvx (p.recs.take j)).table).2.2;exact congrArg Slot.digest (hu.eq_of t1 t2 ha hr)
theorem find_prefix{l':List Crt}(h:l <+: l'){p:Crt→Bool}(hs:(l.find? p).isSome=true):(l'.find? p).isSome=true:=by
 obtain⟨t,rfl⟩:=h;rw[List.find?_append];cases hf:l.find? p with
 |none=>rw[hf]at hs;cases hs
 |some x=>rfl
theorem filterMap_len{α β:Type}(f g:α→Option β)(hfg:∀a,(f a).isSome=true→(g a).isSome=true):∀(l:List α),(l.filterMap f).length≤(l.filterMap g).length
 |[]=>Nat.le_refl _
 |a::l=>by
  have ih:=filterMap_len f g hfg l
  rw[List.filterMap_cons,List.filterMap_cons]
  cases h1:f a with
  |none =>
   cases h2:g a with
   |none=>exact ih
   |some y=>simp only[List.length_cons];omega
  |some x =>
   have:=hfg a (by rw[h1];rfl)
   cases h2:g a with
   |none=>rw[h2]at this;cases this
   |some y=>simp only[List.length_cons];omega
theorem atRound_mono{l':List Crt}(h:l <+: l')(r:Int):(Zbu l r).length≤(Zbu l' r).length:=by
 unfold Zbu;exact filterMap_len _ _ (fun a=>find_prefix h) _
theorem nextFrom_ge(l:List Crt):∀(n:Nat) (r:Int),r≤Zdy l n r
 |0,r=>Int.le_refl _
 |n+1,r=>by
  rw[Zdy]
  split
  ·have:=nextFrom_ge l n (r+1);omega
  ·exact Int.le_refl _
theorem nextFrom_mono{l l':List Crt}(h:l <+: l'):∀(n n':Nat) (r:Int),n≤n'→Zdy l n r≤Zdy l' n' r
 |0,n',r,_=>nextFrom_ge l' n' r
 |n+1,0,r,hn=>by omega
 |n+1,n'+1,r,hn=>by
  have hm:=atRound_mono h r
  rw[Zdy,Zdy]
  split
  ·rw[if_pos (by omega)]
   exact nextFrom_mono h n n' (r+1) (by omega)
  ·split
   ·have:=nextFrom_ge l' n' (r+1);omega
   ·exact Int.le_refl _
theorem rndV_mono{l':List Crt}(h:l <+: l')(h1:dagF hD cF l=0)(h2:dagF hD cF l'=0):rndV l≤rndV l':=by
 unfold rndV;rw[if_pos h1,if_pos h2];exact nextFrom_mono h _ _ _ (by have:=h.length_le;omega)
structure Grows (f g:Ft):Prop where
 node:∀k:Int,0≤k→k≤3→Le (core (Zan f k)) (core (Zan g k))
 signs:f.signs <+: g.signs
theorem Grows.refl(f:Ft):Grows f f:=⟨fun _ _ _=>Le.refl _,List.prefix_refl _⟩
theorem Grows.round{g:Ft}(h:WI f)(hg:WI g)(q:Grows f g){k:Int}(h0:0≤k)(h3:k≤3):rndV (Zan f k).dag≤rndV (Zan g k).dag:=by
 obtain⟨ms,j,p1,_⟩:=h.node k h0 h3;obtain⟨ms',j',p2,_⟩:=hg.node k h0 h3;exact rndV_mono (q.node k h0 h3).dag (by rw[p1.dag];exact p1.co.dag) (by rw[p2.dag];exact p2.co.dag)
structure Still (i:Int) (f g:Ft):Prop where
 node:Zan g i=Zan f i
 signs:∃t,g.signs=f.signs++t∧∀s∈t,s.node≠i
theorem Still.refl(i:Int)(f:Ft):Still i f f:=⟨rfl,[],by simp,fun s hs=>by cases hs⟩
theorem Still.trans{i:Int}{g k:Ft}(h:Still i f g)(q:Still i g k):Still i f k:=by
 obtain⟨t,h1,h2⟩:=h.signs;obtain⟨u,q1,q2⟩:=q.signs;refine⟨q.node.trans h.node,t++u,by rw[q1,h1,List.append_assoc],fun s hs=>?_⟩
 rcases List.mem_append.1 hs with hs|hs
 ·exact h2 s hs
 ·exact q2 s hs
def roundA:List At:=[workA 0,Zc1 0,workA 1,Zc1 1,workA 2,Zc1 2,workA 3,Zc1 3,flowA]
def startsA:List At:=[Zbk 0,Zbk 1,Zbk 2,Zbk 3]
def calmA(rounds:Nat):List At:=startsA++(List.replicate rounds roundA).flatten
structure Waits (k:Int) (f g:Ft):Prop where
 up:(Zan f k).up=true→(Zan g k).up=true
 own:(Zan f k).own≠none→(Zan g k).own≠none
 out:(Zan g k).out=(Zan f k).out
theorem Waits.refl(k:Int)(f:Ft):Waits k f f:=⟨id,id,rfl⟩
theorem Waits.trans{k:Int}{g h:Ft}(a:Waits k f g)(b:Waits k g h):Waits k f h:=⟨fun q=>b.up (a.up q),fun q=>b.own (a.own q),b.out.trans a.out⟩
theorem Same.refl(p:Vw):Same p p:=⟨rfl,rfl,rfl,rfl⟩
theorem calmA_acts(k:Nat):Acts (calmA k):=by
 have h1:Acts startsA:=fun a ha=>by
  simp only[startsA,List.mem_cons,List.not_mem_nil,or_false]at ha
  rcases ha with rfl|rfl|rfl|rfl<;>exact Zh0 (by decide)
 have h2:Acts roundA:=fun a ha=>by
  simp only[roundA,List.mem_cons,List.not_mem_nil,or_false]at ha
  rcases ha with rfl|rfl|rfl|rfl|rfl|rfl|rfl|rfl|rfl
  ·exact Zy1 (by decide)
  ·exact Zpz (by decide)
  ·exact Zy1 (by decide)
  ·exact Zpz (by decide)
  ·exact Zy1 (by decide)
  ·exact Zpz (by decide)
  ·exact Zy1 (by decide)
  ·exact Zpz (by decide)
  ·exact Zzn
 refine h1.append fun a ha=>?_
 obtain⟨l,hl,hal⟩:=List.mem_flatten.1 ha;rw[List.eq_of_mem_replicate hl]at hal;exact h2 a hal
theorem single_law(h:WI f){i k:Int}(hi:0≤i∧i≤3)(hk:0≤k∧k≤3){x y:Crt}(hx:x∈(vwAt f i).certs)(hy:y∈(vwAt f k).certs)(ha:x.hdr.author=y.hdr.author)(hr:x.hdr.round=y.hdr.round):hdR x.hdr=hdR y.hdr:=by
 by_cases c1:i=f.rogue
 ·rw[Zq4 c1]at hx;cases hx
 by_cases c2:k=f.rogue
 ·rw[Zq4 c2]at hy;cases hy
 rw[Zt1 c1]at hx;rw[Zt1 c2]at hy
 have hcF:∀{j:Int},(0≤j∧j≤3)→∀{z:Crt},z∈(Zan f j).dag→hF z.hdr=0:=fun {j} hj {z} hz=>by
  obtain⟨ms,q,p,_⟩:=h.node j hj.1 hj.2;exact(certF_zero ((dagF_zero.1 (by rw[p.dag];exact p.co.dag)).2.1 z hz)).1
 rw[Zvg (hcF hi hx),Zvg (hcF hk hy)];exact one_digest h hi hk hx hy ha hr
theorem sound_law(h:WI f){i:Int}(hi:0≤i∧i≤3):dagF hD cF (vwAt f i).certs=0∧(i≠f.rogue→rndV (vwAt f i).certs=(vwAt f i).round)∧∀c∈(vwAt f i).certs,Zl4 f.signs f.rogue c=0:=by
 by_cases c1:i=f.rogue
 ·rw[Zq4 c1];exact⟨by decide,fun q=>absurd c1 q,fun c hc=>by cases hc⟩
 ·rw[Zt1 c1];obtain⟨ms,q,p,_⟩:=h.node i hi.1 hi.2;refine⟨?_,fun _=>rfl,fun c hc=>?_⟩
  ·show dagF hD cF (Zan f i).dag=0;rw[p.dag];exact p.co.dag
  ·exact p.co.prov c (by rw[←p.dag];exact hc)
end Fl
theorem RMsgs.at{n c:Nat}{xs:List Msg}(hr:RMsgs h (.slice A n c) xs):n=xs.length∧n≤c∧n*264≤140737488355328∧∀k (hk:k<xs.length),∃b o vt vb vp vd cb cp cv,A=some ⟨b,o,none⟩∧(∀j u,(msgC xs[k] vt vb vp vd cb cp cv).toList[j]?=some u→h ⟨b,o+k*19+j,none⟩=some u)∧RMsg h xs[k] vt vb vp vd cb cp cv:=by
 obtain⟨A',c',e,h1,_,h2,_,h3⟩:=hr;injection e with e1 e2 e3;subst e1 e2 e3;refine⟨rfl,h1,h2,fun k hk=>?_⟩;obtain⟨b,o,ea,hc⟩:=h3 (by omega);obtain⟨cs,hl,hcell,vt,vb,vp,vd,cb,cp,cv,rfl,r⟩:=hc k hk;exact⟨b,o,vt,vb,vp,vd,cb,cp,cv,ea,fun j u hu=>by rw[hcell j (by rw[←hl];exact(List.getElem?_eq_some_iff.1 hu).1)];exact hu,r⟩
namespace Fl
theorem OwnA.base{b b':Nat}{l:List At}(h:OwnA w b v l)(hb:b'≤b):OwnA w b' v l:=by
 obtain⟨h1,h2⟩:=h.own;refine⟨h1,?_⟩
 rcases h2 with h2|⟨g,cap,cur,h3,h4,h5⟩
 ·exact .inl h2
 ·exact .inr ⟨g,cap,cur,h3,Nat.le_trans hb h4,h5⟩
theorem ROc.mono:Mono ROc:=fun h h' cs x ⟨a,b,c,e,h1,h2,h3⟩ hle=>⟨a,b,c,e,RSl.mono RVw.mono h1 hle,RSl.mono RSign.mono h2 hle,h3.mono hle⟩
theorem starts_take{n:Nat}(h:n<4):startsA.take (n+1)=startsA.take n++[Zbk n]:=by
 have:n=0∨n=1∨n=2∨n=3:=by omega
 rcases this with rfl|rfl|rfl|rfl<;>rfl
theorem round_take{n:Nat}(h:n<4):roundA.take (2*(n+1))=roundA.take (2*n)++[workA n,Zc1 n]:=by
 have:n=0∨n=1∨n=2∨n=3:=by omega
 rcases this with rfl|rfl|rfl|rfl<;>rfl
theorem rounds_len(k:Nat):((List.replicate k roundA).flatten).length=9*k:=by
 induction k with
 |zero=>rfl
 |succ k ih=>rw[List.replicate_succ,List.flatten_cons,List.length_append,ih];show 9+9*k=_;omega
theorem rounds_succ(k:Nat):(List.replicate (k+1) roundA).flatten=(List.replicate k roundA).flatten++roundA:=by
 rw[List.replicate_succ',List.flatten_append];simp
theorem calm_any(k:Nat)(w:World)(hk:k≤100) :
 Calls Tryz.prog 17 #[.int .i64 k] w fun e w'=>∃v,e=.returned v∧Below w.heap.size w w'∧OwnA w' w.heap.size v (calmA k):=by
 go_enter Tryz.func17,Tryz.ntmps17
 go_wp2
 go_loopw [3,4] (fun vr ct wr=>∃n:Nat,n≤4∧ct=.int .i64 n∧OwnA wr w.heap.size vr (startsA.take n)∧Below w.heap.size w wr) (fun _ ct _=>4-(intOf ct).toNat)
 case atStart=>exact⟨0,by omega,rfl,OwnA.nil _ _,Below.refl _ _⟩
 case round =>
  obtain⟨n,hn,rfl,hown,hbl⟩:=hrel;have hz:=hbl.size
  by_cases hlt:n<4
  ·have hI:(n:Int)<4:=by omega
   have Hn:=Lib.hid (starts_take hlt);have hl:(startsA.take n).length≤4:=by rw[List.length_take];omega
   generalize startsA.take n=xs at hown Hn hl;obtain⟨vA,vc,rfl⟩:=hown.form;have hba:=Zac wr (.cells #[.int .i64 8,.int .i64 n,.int .i64 0,.string ⟨#[]⟩] 58);have hy:=RAts.ofBlk [Zbk n] (Blk.new wr 58 #[.int .i64 8,.int .i64 n,.int .i64 0,.string ⟨#[]⟩]) rfl (by simp)
   go_wp2_with (at_builtin;go_loud (refine Zdt (xs:=xs) (ys:=[Zbk n]) (W:=w) _ _ rfl rfl rfl (hown.alloc (.cells #[.int .i64 8,.int .i64 n,.int .i64 0,.string ⟨#[]⟩] 58)) (hbl.trans (hba.mono hz)) (Nat.le_trans hz hba.size) rfl hy (by simp;omega) ?_))
   intro v2 w5 ho5 hb5 hg5;rw[←Hn.out]at ho5;clear hy hba hown hg5;go_wp2;go_roundw
   case rel=>exact⟨n+1,by omega,by go_num,ho5,hb5⟩
   case measure=>simp[intOf];omega
  ·have hI:¬(n:Int)<4:=by omega
   have h4:n=4:=by omega
   rw[h4,show startsA.take 4=startsA from rfl]at hown;clear h4 hlt hn
   go_wp2_with fail
   go_loopw [3,5,6] (fun vr ct _ wr=>∃i:Nat,i≤k∧ct=.int .i64 i∧OwnA wr w.heap.size vr (startsA++(List.replicate i roundA).flatten)∧Below w.heap.size w wr) (fun _ ct _ _=>k-(intOf ct).toNat)
   case atStart=>exact⟨0,by omega,rfl,by simpa using hown,hbl⟩
   case round =>
    clear hown hbl hz;obtain⟨i,hi,rfl,hown,hbl⟩:=hrel;have hz:=hbl.size
    by_cases hlt:i<k
    ·have hIk:(i:Int)<k:=by omega
     have hl:(startsA++(List.replicate i roundA).flatten).length≤1000:=by rw[List.length_append,rounds_len];show 4+9*i≤_;omega
     have Hs:=Lib.hid (rounds_succ i);obtain⟨xs,hxs⟩:∃xs,Hid (startsA++(List.replicate i roundA).flatten=xs):=⟨_,rfl⟩;rw[hxs.out]at hown hl;obtain⟨wo,hwo⟩:∃wo:World,wo=wr:=⟨_,rfl⟩;subst hwo
     go_wp2_with fail
     go_loopw [3,6] (fun vr ct wr=>∃n:Nat,n≤4∧ct=.int .i64 n∧OwnA wr w.heap.size vr (xs++roundA.take (2*n))∧Below w.heap.size w wr) (fun _ ct _=>4-(intOf ct).toNat)
     case atStart=>exact⟨0,by omega,rfl,by simpa using hown,hbl⟩
     case round =>
      clear hown hbl hz;obtain⟨n,hn,rfl,hown,hbl⟩:=hrel;have hz:=hbl.size
      by_cases hlt4:n<4
      ·have hI4:(n:Int)<4:=by omega
       have Hn:Hid (xs++roundA.take (2*(n+1))=(xs++roundA.take (2*n))++[workA n,Zc1 n]):=by
        show _=_;rw[round_take hlt4,List.append_assoc]
       have hl2:(xs++roundA.take (2*n)).length≤2000:=by rw[List.length_append,List.length_take];have:roundA.length=9:=rfl;omega
       generalize xs++roundA.take (2*n)=ys at hown Hn hl2;obtain⟨vA,vc,rfl⟩:=hown.form;have hba:=Zac wr (.cells #[.int .i64 2,.int .i64 n,.int .i64 0,.string ⟨#[]⟩,.int .i64 3,.int .i64 n,.int .i64 0,.string ⟨#[]⟩] 58);have hy:=RAts.ofBlk [workA n,Zc1 n] (Blk.new wr 58 #[.int .i64 2,.int .i64 n,.int .i64 0,.string ⟨#[]⟩,.int .i64 3,.int .i64 n,.int .i64 0,.string ⟨#[]⟩]) rfl (by simp)
       go_wp2_with (at_builtin;go_loud (refine Zdt (xs:=ys) (ys:=[workA n,Zc1 n]) (W:=w) _ _ rfl rfl rfl (hown.alloc (.cells #[.int .i64 2,.int .i64 n,.int .i64 0,.string ⟨#[]⟩,.int .i64 3,.int .i64 n,.int .i64 0,.string ⟨#[]⟩] 58)) (hbl.trans (hba.mono hz)) (Nat.le_trans hz hba.size) rfl hy (by simp;omega) ?_))
       intro v2 w5 ho5 hb5 hg5;rw[←Hn.out]at ho5;clear hy hba hown hg5;go_wp2;go_roundw
       case rel=>exact⟨n+1,by omega,by go_num,ho5,hb5⟩
       case measure=>simp[intOf];omega
      ·have hI4:¬(n:Int)<4:=by omega
       have h4:n=4:=by omega
       have Hn:Hid (startsA++(List.replicate (i+1) roundA).flatten=(xs++roundA.take (2*4))++[flowA]):=by
        show _=_;rw[Hs.out,←List.append_assoc,hxs.out,List.append_assoc];rfl
       rw[h4]at hown;have hl2:(xs++roundA.take (2*4)).length≤2000:=by rw[List.length_append,List.length_take];have:roundA.length=9:=rfl;omega
       generalize xs++roundA.take (2*4)=ys at hown Hn hl2;obtain⟨vA,vc,rfl⟩:=hown.form;have hba:=Zac wr (.cells #[.int .i64 10,.int .i64 0,.int .i64 0,.string ⟨#[]⟩] 58);have hy:=RAts.ofBlk [flowA] (Blk.new wr 58 #[.int .i64 10,.int .i64 0,.int .i64 0,.string ⟨#[]⟩]) rfl (by simp);clear h4 hlt4 hn
       go_wp2_with (at_builtin;go_loud (refine Zdt (xs:=ys) (ys:=[flowA]) (W:=w) _ _ rfl rfl rfl (hown.alloc (.cells #[.int .i64 10,.int .i64 0,.int .i64 0,.string ⟨#[]⟩] 58)) (hbl.trans (hba.mono hz)) (Nat.le_trans hz hba.size) rfl hy (by simp;omega) ?_))
       intro v2 w5 ho5 hb5 hg5;rw[←Hn.out]at ho5;clear hy hba hown hg5;go_wp2;go_roundw
       case rel=>exact⟨i+1,by omega,by go_num,ho5,hb5⟩
       case measure=>simp[intOf];omega
    ·have hIk:¬(i:Int)<k:=by omega
     have he:i=k:=by omega
     rw[he]at hown;clear he hlt hi;go_wp2;go_ret;exact⟨_,rfl,hbl,hown⟩
end Fl
namespace Kp
theorem below_2(w:World)(o1 o2:Obj):Below w.heap.size w ((w.alloc o1).alloc o2):=((Below.refl _ _).alloc (Nat.le_refl _) _).alloc (Zau _ (Nat.le_refl _)) _
end Kp
theorem Zxb{H:Type}{enc:TypeId×Value→H}{t:TypeId}{k:IntKind}{base:Nat}{d:DataW H}{p:List MemPlace}(ht:P.underlying t=some (.int k))(hval:Value.okWide P W .any base t v)(h:DataW.Trod enc P W 0 (fun _=>true) true t v d p)(hw:∀n∈DataW.weights P t d,n≤reachBytes):∃n,v=.int k n∧(Lit.int k n).wf=true:=by
 obtain⟨fuel,h⟩:=h;obtain⟨n,hc,hwf⟩:=Zo0 ht H enc W fuel _ _ h hw;obtain⟨m,rfl⟩:=okWide_int ht hval;obtain rfl:m=n:=by simpa[Value.cells]using hc
 exact⟨m,rfl,hwf⟩
def Zvd : List (String × DataW Unit) := [("sheaves/blake.first", Rows.laid_sheaves_blake_first), ("sheaves/blake.order", Rows.laid_sheaves_blake_order), ("sheaves/blake.lanes", Rows.laid_sheaves_blake_lanes)]
theorem Zyt{α:Type}(sz:Nat):∀(rows:List (List α)) (cs:List α),cs.length=rows.length*sz→(∀i (hi:i<rows.length),(cs.drop (i*sz)).take sz=rows[i])→cs=rows.flatten
 |[],cs,hl,_=>by
  have:cs=[]:=List.eq_nil_of_length_eq_zero (by simpa using hl)
  rw[this];rfl
 |r::rs,cs,hl,h=>by
  have h0:=h 0 (by simp)
  simp only[Nat.zero_mul,List.drop_zero,List.getElem_cons_zero]at h0
  have h1:=Zyt sz rs (cs.drop sz) (by rw[List.length_drop,hl,List.length_cons,Nat.add_mul];omega) (fun i hi=>by
   have:=h (i+1) (by simp;omega)
   rw[List.getElem_cons_succ]at this
   rw[←this,List.drop_drop,Nat.add_mul,Nat.one_mul,Nat.add_comm])
  rw[List.flatten_cons,←h1,←h0,List.take_append_drop]
section
variable {H:Type} {enc:TypeId×Value→H} {P:Program} {w:World} {base:Nat} {sp:Nat→Bool} {held:Bool} {t e:TypeId} {n fuel:Nat} {cs:List Value} {x:DataW H×List MemPlace}
theorem Zr0{k:IntKind}(ht:P.underlying t=some (.array n e))(he:P.underlying e=some (.int k))(hc:P.cellsOf e=1)(hn:P.cellsOf t=n)(h:DataW.trod enc P w base sp held fuel t cs=some x){l:List Int}(hx:x.1=.agg (l.map fun z=>.lit (.int k z))):cs=l.map (Value.int k):=by
 obtain⟨xs,m,rfl,rfl,hlen,hxl,hel⟩:=DataW.trod_array ht h;injection hx with hx;have hll:l.length=n:=by have:=congrArg List.length hx;simp at this;omega
 refine List.ext_getElem (by rw[hlen,hn];simp[hll]) (fun i h1 h2=>?_);have hi:i<n:=by rw[hlen,hn]at h1;exact h1
 have h3:=hel i hi;rw[hc,Nat.mul_one,List.getElem?_eq_getElem (by omega)]at h3;obtain⟨z,e1,e2,_⟩:=DataW.trod_int he h3;have h4:(xs.map (·.1))[i]?=(l.map fun z=>DataW.lit (.int k z))[i]?:=by rw[hx]
 rw[List.getElem?_map,List.getElem?_map,List.getElem?_eq_getElem (by omega),List.getElem?_eq_getElem (by omega),e2]at h4;simp at h4
 have h5:(cs.drop i).take 1=[cs[i]]:=by
  rw[List.drop_eq_getElem_cons h1];rfl
 rw[h5]at e1;injection e1 with e1;rw[e1,h4];simp
theorem Zrz{e2:TypeId}{n2:Nat}{k:IntKind}(ht:P.underlying t=some (.array n e))(he:P.underlying e=some (.array n2 e2))(he2:P.underlying e2=some (.int k))(hc:P.cellsOf e2=1)(hc2:P.cellsOf e=n2)(hn:P.cellsOf t=n*n2)(h:DataW.trod enc P w base sp held fuel t cs=some x){l:List (List Int)}(hx:x.1=.agg (l.map fun r=>.agg (r.map fun z=>.lit (.int k z)))):cs=(l.map fun r=>r.map (Value.int k)).flatten:=by
 obtain⟨xs,m,rfl,rfl,hlen,hxl,hel⟩:=DataW.trod_array ht h;injection hx with hx;have hll:l.length=n:=by have:=congrArg List.length hx;simp at this;omega
 refine Zyt n2 _ _ (by rw[hlen,hn];simp[hll]) (fun i hi=>?_);have hi':i<n:=by simpa[hll]using hi
 have h3:=hel i hi';rw[hc2,List.getElem?_eq_getElem (by omega)]at h3;have h4:(xs.map (·.1))[i]?=(l.map fun r=>DataW.agg (r.map fun z=>DataW.lit (.int k z)))[i]?:=by rw[hx]
 rw[List.getElem?_map,List.getElem?_map,List.getElem?_eq_getElem (by omega),List.getElem?_eq_getElem (by omega)]at h4;simp only[Option.map_some,Option.some.injEq]at h4;rw[Zr0 he he2 hc hc2 h3 h4];simp
end
theorem gFirst : Tryz.prog.globalNamed "sheaves/blake.first" = some 0 := by kernel_rfl
theorem gOrder : Tryz.prog.globalNamed "sheaves/blake.order" = some 1 := by kernel_rfl
theorem gLanes : Tryz.prog.globalNamed "sheaves/blake.lanes" = some 2 := by kernel_rfl
theorem tFirst:(Tryz.prog.globals[0]?).map (·.type)=some 162:=by kernel_rfl
theorem tOrder:(Tryz.prog.globals[1]?).map (·.type)=some 202:=by kernel_rfl
theorem tLanes:(Tryz.prog.globals[2]?).map (·.type)=some 204:=by kernel_rfl
theorem Zlk{n:Nat}{cs:Array Value}{l:List Nat}{enc:Nat→Value}(hc:∀i,W.cell? ⟨g,i,none⟩=cs[i]?)(h:cs.toList=l.map enc)(hn:l.length=n):∀i,i<n→W.cell? ⟨g,i,none⟩=some (enc (at0 l i)):=fun i hi=>by
 rw[hc i,←Array.getElem?_toList,h,←Zgm (by omega)]
 simp[show i<l.length by omega]
theorem Zzg(h:laidMetH Tryz.prog Zvd W):Tabs W.cell?:=by
 rw[MakeChecks.laidMetH_plain _ _ _ (by kernel_rfl)]at h;obtain⟨ps,⟨g0,t0,cs0,f0,p0,q0,hg0,ht0,hv0,hd0,⟨g1,t1,cs1,f1,p1,q1,hg1,ht1,hv1,hd1,⟨g2,t2,cs2,f2,p2,q2,hg2,ht2,hv2,hd2,_,_⟩,_⟩,_⟩,_,_⟩:=h;obtain rfl:=Option.some.inj (gFirst.symm.trans hg0);obtain rfl:=Option.some.inj (gOrder.symm.trans hg1);obtain rfl:=Option.some.inj (gLanes.symm.trans hg2);obtain rfl:=Option.some.inj (tFirst.symm.trans ht0);obtain rfl:=Option.some.inj (tOrder.symm.trans ht1);obtain rfl:=Option.some.inj (tLanes.symm.trans ht2);have e0:=Zr0 (l:=Zc3.map Int.ofNat) Tryz.underlying162 Tryz.underlying161 (by kernel_rfl) (by kernel_rfl) hd0 rfl;have e1:=Zrz (l:=Zff.map fun r=>r.map Int.ofNat) Tryz.underlying202 Tryz.underlying201 Tryz.underlying3 (by kernel_rfl) (by kernel_rfl) (by kernel_rfl) hd1 rfl;have e2:=Zrz (l:=((List.range 8).map Zf1).map fun r=>r.map Int.ofNat) Tryz.underlying204 Tryz.underlying203 Tryz.underlying3 (by kernel_rfl) (by kernel_rfl) (by kernel_rfl) hd2 (by kernel_rfl);have f0:cs0.toList=Zc3.map encU:=e0;have f1:cs1.toList=Zff.flatten.map encN:=e1.trans (by kernel_rfl);have f2:cs2.toList=(((List.range 8).map Zf1).flatten).map encN:=e2.trans (by kernel_rfl);exact⟨Zlk (World.var?_cell hg0 hv0) f0 (by kernel_rfl),Zlk (World.var?_cell hg1 hv1) f1 (by kernel_rfl),Zlk (World.var?_cell hg2 hv2) f2 (by kernel_rfl)⟩
theorem Zx4(os:Os)(args:Array Value):laidMetH Tryz.prog Zvd ((World.doorLaid Tryz.prog 400 os).forCall (fun _ _=>0) ⟨#[],args,[]⟩).memory :=
 laidMetH_of_parts3 (fuel:=8) (laidMet_of_run' 8 (by kernel_rfl) (by kernel_rfl)) (by kernel_rfl) (by kernel_rfl)
namespace Fl
theorem Zwz{cs:Array Value}{O:Oc}(r:ROc h cs.toList O):∃A1 c1 A2 c2 A3 c3,cs=#[.slice A1 O.nodes.length c1,.slice A2 O.signs.length c2,.int .i64 O.away,.slice A3 O.codes.length c3]∧RSl 6 RVw 112 h (.slice A1 O.nodes.length c1) O.nodes∧RSigns h (.slice A2 O.signs.length c2) O.signs∧RIs h (.slice A3 O.codes.length c3) O.codes:=by
 obtain⟨v1,v2,v3,e,r1,r2,r3⟩:=r;obtain⟨A1,c1,rfl,_⟩:=id r1;obtain⟨A2,c2,rfl,_⟩:=id r2;obtain⟨A3,c3,rfl,_⟩:=id r3;exact⟨A1,c1,A2,c2,A3,c3,by rw[←Array.toArray_toList (xs:=cs),e],r1,r2,r3⟩
theorem RVws.at{h:View}{A:Option Addr}{n c:Nat}{xs:List Vw}(hr:RSl 6 RVw 112 h (.slice A n c) xs):n=xs.length∧∀k (hk:k<xs.length),∃b o vc vb vv vp,A=some ⟨b,o,none⟩∧h ⟨b,o+k*6,none⟩=some (.bool xs[k].up)∧h ⟨b,o+k*6+1,none⟩=some (.int .i64 xs[k].round)∧h ⟨b,o+k*6+2,none⟩=some vc∧h ⟨b,o+k*6+3,none⟩=some vb∧h ⟨b,o+k*6+4,none⟩=some vv∧h ⟨b,o+k*6+5,none⟩=some vp∧RCrts h vc xs[k].certs∧RBats h vb xs[k].bats∧RSlots h vv xs[k].votes∧RTexts h vp xs[k].pool:=by
 obtain⟨A',c',e,h1,_,h2,_,h3⟩:=hr;injection e with e1 e2 e3;subst e1 e2 e3;refine⟨rfl,fun k hk=>?_⟩;obtain⟨b,o,ea,hc⟩:=h3 (by omega);obtain⟨cs,hl,hcs,vc,vb,vv,vp,rfl,r1,r2,r3,r4⟩:=hc k hk;have c0:=hcs 0 (by omega);have c1:=hcs 1 (by omega);have c2:=hcs 2 (by omega);have c3:=hcs 3 (by omega);have c4:=hcs 4 (by omega);have c5:=hcs 5 (by omega);simp at c0 c1 c2 c3 c4 c5;exact⟨b,o,vc,vb,vv,vp,ea,c0,c1,c2,c3,c4,c5,r1,r2,r3,r4⟩
structure RanV (w w':World) (e:Ending) (rogue:Int) (l:List At):Prop where
 out:∃A1 c1 A2 n2 c2 A3 n3 c3,e=.returned (.tuple #[.agg #[.slice A1 4 c1,.slice A2 n2 c2,.int .i64 ((run rogue l).away.length:Nat),.slice A3 n3 c3],.bool true])∧Below w.heap.size w w'∧n2=(run rogue l).signs.length∧n3=(run rogue l).codes.length∧RSl 6 RVw 112 w'.cell? (.slice A1 4 c1) (Zhg (run rogue l))∧RSigns w'.cell? (.slice A2 n2 c2) (run rogue l).signs
theorem Zrj(rogue:Int)(v:Value)(l:List At)(w:World)(hr:inB rogue (-1) 3=true)(rl:RAts w.cell? v l)(ha:Acts l)(hl:l.length≤3000)(hT:Tabs w.cell?) :
 Calls Tryz.prog 14 #[.int .i64 rogue,v] w fun e w'=>RanV w w' e rogue l:=by
 refine(Zzc rogue v l w hr rl ha hl hT).mono ?_;rintro e w' ⟨cs,rfl,hb,r⟩;obtain⟨A1,c1,A2,c2,A3,c3,rfl,r1,r2,r3⟩:=Zwz r;exact⟨_,_,_,_,_,_,_,_,rfl,hb,rfl,rfl,r1.mono RVw.mono (View.from_le _ _),r2.mono RSign.mono (View.from_le _ _)⟩
theorem Zwl(hk:k<(Zhg f).length):(Zhg f)[k]=vwAt f k:=by
 have:k=0∨k=1∨k=2∨k=3:=by rw[Zes]at hk;omega
 rcases this with rfl|rfl|rfl|rfl<;>rfl
theorem Zsy:Zf4 Tryz.prog 75 (fun h cs (a:At)=>RAt h cs a∧GOk a):=by
 intro H enc w fuel cs x h hw;obtain⟨hl,hf⟩:=Zo1 Tryz.underlying75 h hw;obtain⟨a,ha,wa⟩:=hf 0 3 0 1 rfl (by kernel_rfl) Zp6;obtain⟨b,hb,wb⟩:=hf 1 3 1 1 rfl (by kernel_rfl) Zp6;obtain⟨c,hc,wc⟩:=hf 2 3 2 1 rfl (by kernel_rfl) Zp6;obtain⟨s,hd,hs⟩:=hf 3 9 3 1 rfl (by kernel_rfl) Zzf;have hl':cs.length=4:=hl.trans (by kernel_rfl);have i64:∀{n:Int},(Lit.int .i64 n).wf=true→I64 n:=fun {n} h=>by simpa[Lit.wf,IntKind.min,IntKind.max,IntKind.signed,IntKind.bits,I64]using h
 match cs,hl' with
 |[c0,c1,c2,c3],_ =>
  simp at ha hb hc hd;subst ha hb hc hd;exact⟨⟨a,b,c,s⟩,rfl,i64 wa,i64 wb,i64 wc,Zw1 hs⟩
theorem Zp7:Zf4 Tryz.prog 22 (fun h cs (xs:List At)=>∃v,cs=[v]∧RSl 4 (fun h cs (a:At)=>RAt h cs a∧GOk a) 40 h v xs) :=
 Zxa Tryz.underlying22 (by kernel_rfl) (by decide) (by kernel_rfl) Zsy
theorem Zxq{xs:List At}(r:RSl 4 (fun h cs (a:At)=>RAt h cs a∧GOk a) 40 h v xs):RAts h v xs∧∀a∈xs,GOk a:=by
 obtain⟨A,c,e,h1,h2,h3,h4,h5⟩:=r;refine⟨⟨A,c,e,h1,h2,h3,h4,fun hp=>?_⟩,fun a ha=>?_⟩
 ·obtain⟨b,o,ea,hc⟩:=h5 hp;refine⟨b,o,ea,fun i hi=>?_⟩;obtain⟨cs,q1,q2,q3⟩:=hc i hi;exact⟨cs,q1,q2,q3.1⟩
 ·obtain⟨i,hi,rfl⟩:=List.getElem_of_mem ha;obtain⟨b,o,ea,hc⟩:=h5 (by omega);obtain⟨cs,q1,q2,q3⟩:=hc i hi;exact q3.2
theorem Zsz{H:Type}{enc:TypeId×Value→H}{base:Nat}{d:DataW H}{p:List MemPlace}(hval:Value.okWide Tryz.prog W .any base 22 v)(h:DataW.Trod enc Tryz.prog W 0 (fun _=>true) true 22 v d p)(hw:∀n∈DataW.weights Tryz.prog 22 d,n≤reachBytes):∃l:List At,RAts W.cell? v l∧∀g∈l,GOk g:=by
 obtain⟨fuel,h⟩:=h;obtain⟨x,v',hc,hr⟩:=Zp7 H enc W fuel _ _ h hw;obtain⟨a,n,c,rfl⟩:=okWide_slice Tryz.underlying22 hval;obtain rfl:Value.slice a n c=v':=by simpa[Value.cells]using hc
 obtain⟨h1,h2⟩:=Zxq hr;exact⟨x,h1,h2⟩
theorem Zrm{H:Type}{enc:TypeId×Value→H}{base:Nat}{d:DataW H}{p:List MemPlace}(hval:Value.okWide Tryz.prog W .any base 3 v)(h:DataW.Trod enc Tryz.prog W 0 (fun _=>true) true 3 v d p)(hw:∀n∈DataW.weights Tryz.prog 3 d,n≤reachBytes):∃n:Int,v=.int .i64 n∧I64 n:=by
 obtain⟨n,rfl,wn⟩:=Zxb (k:=.i64) Tryz.underlying3 hval h hw;exact⟨n,rfl,by simpa[Lit.wf,IntKind.min,IntKind.max,IntKind.signed,IntKind.bits,I64]using wn⟩
end Fl
theorem RSl.small(hr:RSl sz R bs h v xs)(hb:0<bs):xs.length≤140737488355328:=by
 obtain⟨_,_,_,_,_,h1,_⟩:=hr;exact Nat.le_trans (Nat.le_mul_of_pos_right _ hb) h1
namespace Fl
theorem wpList_load_row_g{o:Oper}{a:Act}(hwd:Region.wanted o (yielded ops a.tmps)=true)(ty:TypeId)(x:Operand)(ho:o.op=.load ty x)(g:Nat)(hx:a.eval x=.pointer (some ⟨g,0,none⟩))(t:TypeId)(cs:Array Value)(fr:Nat×Nat)(d:TypeDesc)(hg:w.heap[g]?=some (.cells cs t fr))(hu:P.underlying ty=some d)(hd:(match d with|.struct _|.array _ _=>true|_=>false)=true)(hi:(P.info? ty).map (·.size)=some cs.size)(h:wpList P ops Q rest (a.put o.dst (.agg cs)) w):wpList P ops Q (o::rest) a w :=
 wpList_step fun K hK=>by rw[if_pos hwd];exact wp_load_row ty x ho g hx t cs fr d hg hu hd hi (hK _ _ h)
theorem OwnA.chg2{G:List Nat}{b:Nat}{l:List At}(h:OwnA w b v l)(hc:Chg G w w')(hG:∀q,v.ownBlock=some q→q∉G):OwnA w' b v l:=by
 obtain⟨h1,h2⟩:=h.own;refine⟨h1,?_⟩
 rcases h2 with h2|⟨g,cap,cur,h3,h4,h5,h6⟩
 ·exact .inl h2
 ·exact .inr ⟨g,cap,cur,h3,h4,(hc.block g (Array.getElem?_eq_some_iff.1 h5).1 (hG g (by rw[h3];rfl))).trans h5,h6⟩
theorem OwnA.chg{G:List Nat}{b:Nat}{l:List At}(h:OwnA w b v l)(hc:Chg G w w')(hG:∀g∈G,g<b):OwnA w' b v l :=
 h.chg2 hc (fun q hq hm=>by have:=hG q hm;have:=(h.own.lt q hq).1;omega)
theorem run_append_acts{ty:TypeId}{base:Nat}{xs ys:List At}(hown:OwnA wr base v xs)(hbase:base≤wr.heap.size)(hy:RAts wr.cell? (.slice (some ⟨g,0,none⟩) k k) ys)(hk:k=ys.length)(h0:0<k)(hn:xs.length+k≤100000) :
 ∃v' w',(Builtin.append_ #[31,31] ty #[v,.slice (some ⟨g,0,none⟩) k k]).run Tryz.prog wr=.ok v' w'∧OwnA w' base v' (xs++ys)∧wr.grownBy w' v.ownBlock∧∀q,v'.ownBlock=some q→v.ownBlock=some q∨wr.heap.size≤q:=by
 obtain⟨i,hi,hz0,hz1,hz2⟩:=info_parts actInfo;obtain⟨_,hA,hcell⟩:=hy.src;have hcell:=hcell _ rfl;subst hk;obtain⟨v',w',hr,h2,h3,_⟩:=run_append_own (P:=Tryz.prog) wr base 31 ty 58 i _ 4 40 Tryz.underlying31 hi hz0 hz1 hz2 rfl (by decide) v xs.length _ hown.own ⟨g,0,none⟩ ys.length ys.length ((ys.map atC).flatten) (Zry ys) hcell (Zz2 ys) (Zbw (by omega)) (by omega) hbase;refine⟨v',w',hr,⟨?_⟩,h3,fun q hq=>?_⟩
 ·rw[List.length_append,List.map_append,List.flatten_append];exact h2
 ·rcases Zg1 (P:=Tryz.prog) wr base 31 ty 58 i _ 4 40 Tryz.underlying31 hi hz0 hz1 hz2 v xs.length _ hown.own ⟨g,0,none⟩ ys.length ys.length ((ys.map atC).flatten) (Zry ys) hcell (Zz2 ys) h0 (by omega) (by omega) hr with e|e
  ·exact .inl (by rw[←e];exact hq)
  ·rw[e]at hq;injection hq with hq;exact .inr (by omega)
theorem wp_append_acts{o:Oper}{a:Act}{base:Nat}{xs ys:List At}(s yo:Operand)(ho:o.op=.call {callee:=.builtin .append,args:=#[s,yo],argTypes:=#[31,31] })(hs:a.eval s=v)(hown:OwnA wr base v xs)(hbase:base≤wr.heap.size)(hx:a.eval yo=.slice (some ⟨g,0,none⟩) k k)(hy:RAts wr.cell? (.slice (some ⟨g,0,none⟩) k k) ys)(hk:k=ys.length)(h0:0<k)(hn:xs.length+k≤100000)(h:∀v' w',OwnA w' base v' (xs++ys)→wr.grownBy w' v.ownBlock→(∀q,v'.ownBlock=some q→v.ownBlock=some q∨wr.heap.size≤q)→K (a.put o.dst v') w'):o.wp Tryz.prog a wr K Q:=by
 obtain⟨v',w',hr,h2,h3,h4⟩:=run_append_acts (ty:=o.type) hown hbase hy hk h0 hn;unfold Oper.wp execOp;simp[ho,resolve,invoke,builtin,hs,hx,hr,Result.andThen,Oper.upon];exact h v' w' h2 h3 h4
theorem wpList_append_acts{o:Oper}{a:Act}{base:Nat}{xs ys:List At}(s yo:Operand)(hgd:o.guard=none)(ho:o.op=.call {callee:=.builtin .append,args:=#[s,yo],argTypes:=#[31,31] })(hs:a.eval s=v)(hown:OwnA wr base v xs)(hbase:base≤wr.heap.size)(hx:a.eval yo=.slice (some ⟨g,0,none⟩) k k)(hy:RAts wr.cell? (.slice (some ⟨g,0,none⟩) k k) ys)(hk:k=ys.length)(h0:0<k)(hn:xs.length+k≤100000)(h:∀v' w',OwnA w' base v' (xs++ys)→wr.grownBy w' v.ownBlock→(∀q,v'.ownBlock=some q→v.ownBlock=some q∨wr.heap.size≤q)→wpList Tryz.prog ops Q rest (a.put o.dst v') w'):wpList Tryz.prog ops Q (o::rest) a wr :=
 wpList_plain hgd fun _ hK=>wp_append_acts s yo ho hs hown hbase hx hy hk h0 hn fun v' w' h2 h3 h4=>hK _ _ (h v' w' h2 h3 h4)
theorem forge_any(k:Int)(m:Msg)(vt vb vp vd cb cp cv:Value)(w:World)(r:RMsg w.cell? m vt vb vp vd cb cp cv)(hs:∀s∈m.bat.txs,s.size≤140737488355328) :
 Calls Tryz.prog 22 #[.int .i64 k,.agg (msgC m vt vb vp vd cb cp cv)] w fun e w'=>∃t:ByteArray,e=.returned (.agg #[.int .i64 9,.int .i64 k,.int .i64 0,.string t])∧Below w.heap.size w w'∧t.size≤4000:=by
 have r0:=r;obtain⟨⟨tA,tc,rfl⟩,⟨bA,bc,rfl⟩,⟨pA,pc,rfl⟩,⟨dA',dc',rfl⟩,⟨cA,cc,rfl⟩,⟨qA,qc,rfl⟩,⟨eA,ec,rfl⟩⟩:=r0.forms;have HE:=Lib.hid (fun w (r:RMsg w.cell? {m with dst:=k } _ _ _ _ _ _ _)=>Zmu {m with dst:=k } (.slice tA m.bat.txs.length tc) (.slice bA m.hdr.batches.length bc) (.slice pA m.hdr.parents.length pc) (.slice dA' m.slt.digest.length dc') (.slice cA m.crt.hdr.batches.length cc) (.slice qA m.crt.hdr.parents.length qc) (.slice eA m.crt.voters.length ec) w r hs);unfold msgC at HE⊢;simp only at HE;have hlm:=Zu3 {m with dst:=k };obtain⟨B,hB⟩:∃B,Hid (Zqa {m with dst:=k }=B):=⟨_,rfl⟩;obtain⟨E,hE⟩:∃E,Hid (msgF {m with dst:=k }=E):=⟨_,rfl⟩;rw[hB.out]at hlm;simp only[hB.out,hE.out]at HE;clear r0 hs hB hE
 go_enter Tryz.func22,Tryz.ntmps22
 go_upto_region 1 with fail
 refine Za6 _ _ _ _ _ (fun W=>Code.wp _ _ _ _ W) (fun W hk1 hk2 hsz hbl=>?_);clear hsz;have hz:=hbl.size
 go_wp2_with (refine Zai (n:=1) rfl rfl rfl rfl (by kernel_rfl) rfl hk1 (by simp) rfl ?_)
 intro w3 hk3 hg3;have hk3:Blk w3 w.heap.size 66 #[.int .i64 m.src,.int .i64 k,.int .i64 m.kind,.int .i64 m.bat.author,.int .i64 m.bat.number,.slice tA m.bat.txs.length tc,.int .i64 m.hdr.author,.int .i64 m.hdr.round,.slice bA m.hdr.batches.length bc,.slice pA m.hdr.parents.length pc,.int .i64 m.slt.author,.int .i64 m.slt.round,.slice dA' m.slt.digest.length dc',.int .i64 m.crt.hdr.author,.int .i64 m.crt.hdr.round,.slice cA m.crt.hdr.batches.length cc,.slice qA m.crt.hdr.parents.length qc,.slice eA m.crt.voters.length ec,.int .i64 m.round]:=hk3;have hb3:Below w.heap.size w w3:=Zab hbl hz hg3 (by intro q e;injection e;omega);have hz3:=hb3.size;have r3:=r.mono (Zaa hb3);have hk23:=hk2.grown hg3 (by intro e;injection e;omega);clear hk1 hk2 hg3 hbl
 go_wp2_with (refine wpList_load_row rfl 66 _ rfl _ rfl _ _ _ _ hk3 Tryz.underlying66 rfl (by kernel_rfl) ?_)
 refine(HE.out _ ⟨r3.txs,r3.bats,r3.pars,r3.dig,r3.cbats,r3.cpars,r3.vots⟩).mono ?_;rintro e w4 ⟨d,rfl,hb4,rd⟩;have hbl4:=hb3.trans (hb4.mono hz3);have hk24:=hk23.kept hb4;obtain⟨dA,dc,rfl,hfd⟩:=id rd;have hstr:=Zet (rd.mono (View.from_le _ _));have hz4:=hbl4.size;clear hfd rd r r3 hk3 HE
 go_wp2_with (refine Zj 4 hk24 ?_)
 intro w9 hk9 hg9;go_wp2;refine bodyPost_ret (Zay rfl rfl (by kernel_rfl) (by kernel_rfl) hk9 rfl) rfl ?_;exact⟨bstr B,rfl,Zab hbl4 hz4 hg9 (by intro q e;injection e;omega),by rw[Zlp];omega⟩
theorem sound_any(rg:Int)(A1 A2:Option Addr)(n1 c1 n2 c2:Nat)(aw:Int)(v3:Value)(V:List Vw)(SG:List Sign)(w:World)(hV:RSl 6 RVw 112 w.cell? (.slice A1 n1 c1) V)(hS:RSigns w.cell? (.slice A2 n2 c2) SG)(h3:∃A n c,v3=.slice A n c)(hT:Tabs w.cell?)(hlaw:∀i (hi:i<V.length),dagF hD cF V[i].certs=0∧((i:Int)≠rg→rndV V[i].certs=V[i].round)∧∀c∈V[i].certs,Zl4 SG rg c=0) :
 Calls Tryz.prog 23 #[.int .i64 rg,.agg #[.slice A1 n1 c1,.slice A2 n2 c2,.int .i64 aw,v3]] w fun e w'=>e=.returned (.bool true)∧Below w.heap.size w w':=by
 obtain⟨A3,n3,c3,rfl⟩:=h3;obtain rfl:n1=V.length:=(RVws.at hV).1;have Hlaw:=Lib.hid hlaw;have hVs:=hV.small (by decide);clear hlaw
 go_enter Tryz.func23,Tryz.ntmps23
 go_upto_region 1 with fail
 refine Zo fun W hk hsz hbl=>?_
 clear hsz;have hz:=hbl.size;have hTW:=hT.mono (Zaa hbl);obtain⟨-,hvat⟩:=RVws.at (hV.mono RVw.mono (Zaa hbl));have Hvat:=Lib.hid hvat;have hSW:=hS.mono RSign.mono (Zaa hbl);clear hvat hV hS hT;go_wp2
 go_loopw [5,6,7,8,9] (fun i _ _ _ _ wr=>∃j:Nat,j≤V.length∧i=.int .i64 j∧Below W.heap.size W wr) (fun i _ _ _ _ _=>V.length-(intOf i).toNat)
 case atStart=>exact⟨0,Nat.zero_le _,rfl,Below.refl _ _⟩
 case round =>
  obtain⟨j,hj,rfl,hbr⟩:=hrel;have hzr:=hbr.size;have hkr:=hk.kept hbr;have g0:=hkr.cell 0;simp at g0
  by_cases hlt:j<V.length
  ·have hjI:(j:Int)<V.length:=by omega
   obtain⟨b1,o1,vc,vb,vv,vp,rfl,x0,xr,xc,xb,xv,xp,rc,rb,rv,rp⟩:=Hvat.out j hlt;obtain⟨hd0,hrd,hpv⟩:=Hlaw.out j hlt;generalize V[j]=P at *;have q:=Zaa hbr;have x0:=q _ _ x0;have xr:=q _ _ xr;have xc:=q _ _ xc;have xb:=q _ _ xb;have xv:=q _ _ xv;have xp:=q _ _ xp;have rc:=rc.mono RCrt.mono q;have hPs:=rc.small (by decide);obtain⟨cA,cc,rfl,-⟩:=id rc;obtain⟨bA,bc,rfl,-⟩:=id rb;obtain⟨vA,vc',rfl,-⟩:=id rv;obtain⟨pA,pc,rfl,-⟩:=id rp;have Hpv:=Lib.hid hpv;have hno:Hid ((j:Int)≠rg→rndV P.certs=P.round):=Lib.hid hrd;clear rb rv rp hpv hrd
   go_upto_region 5 with fail
   refine Zo fun W2 hk2 hsz2 hb2=>?_
   clear hsz2 x0 xr xc xb xv xp g0;have hbr2:=hbr.trans (hb2.mono hzr);have hz2:=hbr2.size;have f1:=hk2.cell 1;have f2:=hk2.cell 2;simp at f1 f2
   go_wp2_with fail
   refine(Zjm _ P.certs _ (rc.mono RCrt.mono (Zaa hb2)) (hTW.mono (Zaa hbr2))).mono ?_;rintro e w3 ⟨rfl,hb3⟩;rw[hd0];have hbr3:=hbr2.trans (hb3.mono hz2);have hz3:=hbr3.size;have hk3:=hk2.kept hb3;have f1:=hk3.cell 1;simp at f1;have hbr23:=hb2.trans (hb3.mono hb2.size);obtain⟨RN,hRN⟩:∃r,Hid (rndV P.certs=r):=⟨_,rfl⟩;rw[hRN.out]at hno⊢;clear hd0 f2 hRN hk2
   have hor:(((j:Int) != rg)=false)∨(((j:Int) != rg)=true∧RN=P.round):=by
    by_cases e:(j:Int)=rg
    ·exact .inl (by simp[e])
    ·exact .inr ⟨by simp[e],hno.out e⟩
   rcases hor with hjb|⟨hjb,hre⟩
   all_goals
    try subst hre
    go_wp2_with fail
    go_loopw [9] (fun i wx=>∃k:Nat,k≤P.certs.length∧i=.int .i64 k∧Below w3.heap.size w3 wx) (fun i _=>P.certs.length-(intOf i).toNat)
    case atStart=>exact⟨0,Nat.zero_le _,rfl,Below.refl _ _⟩
    case round =>
     obtain⟨k,hkk,rfl,hbx⟩:=hrel;have hzx:=hbx.size;have hkx:=hk3.kept hbx;have f2:=hkx.cell 2;simp at f2;have hbrx:=hbr3.trans (hbx.mono hz3);have hk0:=hk.kept hbrx;have g1:=hk0.cell 1;simp at g1
     by_cases hlk:k<P.certs.length
     ·have hkI:(k:Int)<P.certs.length:=by omega
      have qx:=Zaa (hbr23.trans (hbx.mono hbr23.size));obtain⟨-,-,-,hcat⟩:=RCrts.at rc;obtain⟨b0,o0,xb,xp,xv,rfl,e0,e1,e2,e3,e4,r1,r2,r3⟩:=hcat k hlk;have hpk:=Hpv.out _ (List.getElem_mem hlk);generalize P.certs[k]=x at *;have e0:=qx _ _ e0;have e1:=qx _ _ e1;have e2:=qx _ _ e2;have e3:=qx _ _ e3;have e4:=qx _ _ e4;have hSx:=hSW.mono RSign.mono (Zaa hbrx);have hTx:=hTW.mono (Zaa hbrx);clear hcat f1
      go_wp2_with fail
      refine Zr [] (.q 0 (.q 1 (.q 2 (.q 3 (.q 4 (.q 5 (.q 6 (.q 7 (.l 8 (.q 9 .nil)))))))))) fun W5 hS=>?_
      repeat((first|refine pq (h:=⟨_,fun w' hS=>by(have q:=Zaa hS;have z1:=q _ _ g1;have z2:=q _ _ f2;have i0:=q _ _ e0;have i1:=q _ _ e1;have i2:=q _ _ e2;have i3:=q _ _ e3;have i4:=q _ _ e4;go_simp;exact rfl),?_⟩)|refine Zq ?_);simp only[sx])
      refine Zd fun K hK=>?_
      try simp only[sy]
      go_simp;have qq:=Zaa hS;refine(Zss _ SG rg x _ _ _ _ (hSx.mono RSign.mono qq) ((r1.mono RDig.mono qx).mono RDig.mono qq) ((r2.mono RDig.mono qx).mono RDig.mono qq) ((r3.mono qx).mono qq) (hTx.mono qq)).mono ?_;rintro e w9 ⟨rfl,hb9⟩;rw[hpk];refine hK.out _ _ (hS.trans (hb9.mono hS.size)) fun hS=>?_
      clear hK K
      try simp only[sx]
      repeat(refine Zq ?_;simp only[sx])
      refine Zah ?_;go_wp2;go_roundw
      case rel=>exact⟨k+1,by omega,by go_num,hbx.trans (hS.mono hzx)⟩
      case measure=>simp[intOf];omega
     ·have hkI:¬(k:Int)<P.certs.length:=by omega
      clear f1 g1;go_wp2;go_roundw
      case rel=>exact⟨j+1,by omega,by go_num,hbrx⟩
      case measure=>simp[intOf];omega
  ·have hjI:¬(j:Int)<V.length:=by omega
   go_wp2;go_ret;exact⟨rfl,hbl.trans (hbr.mono hz)⟩
theorem views_sound{rg:Int}{l:List At}(hr:inB rg (-1) 3=true)(ha:Acts l):∀i (hi:i<(Zhg (run rg l)).length),dagF hD cF (Zhg (run rg l))[i].certs=0∧((i:Int)≠rg→rndV (Zhg (run rg l))[i].certs=(Zhg (run rg l))[i].round)∧∀c∈(Zhg (run rg l))[i].certs,Zl4 (run rg l).signs rg c=0:=by
 intro i hi;have h4:i<4:=by rw[Zes]at hi;exact hi
 have h:=sound_law (Zyo hr ha) (i:=(i:Int)) ⟨by omega,by omega⟩;rw[Zgb]at h;rw[Zwl];exact h
end Fl
theorem pl_altl{C:List Nat}{p r:Pl}{a:Act}(h1:Pl.wp P ops Q S C (.l i p) a w)(h2:Pl.wp P ops Q S C (.l j r) a w):Pl.wp P ops Q S C (.alt i p j r) a w:=⟨h1,h2⟩
namespace Fl
theorem Zmv(x:Crt)(vb vp vv:Value)(w:World)(hb:RDigs w.cell? vb x.hdr.batches)(hp:RDigs w.cell? vp x.hdr.parents)(hv:∃A n c,vv=.slice A n c)(hT:Tabs w.cell?) :
 Calls Tryz.prog 29 #[.agg #[.int .i64 x.hdr.author,.int .i64 x.hdr.round,vb,vp,vv]] w fun e w'=>∃d,e=.returned d∧Below w.heap.size w w'∧Zao w'.cell? d (hdR x.hdr):=by
 obtain⟨vA,vn,vc,rfl⟩:=hv;obtain⟨bA,bc,rfl,-⟩:=id hb;obtain⟨pA,pc,rfl,-⟩:=id hp;obtain⟨E,hE⟩:∃E,Hid (Zb3 x.hdr.author x.hdr.round x.hdr.batches x.hdr.parents=E):=⟨_,rfl⟩;have hd:=fun w=>Zbx x.hdr.author x.hdr.round (.slice bA x.hdr.batches.length bc) (.slice pA x.hdr.parents.length pc) x.hdr.batches x.hdr.parents w
 rw[hE.out]at hd;have Hd:=Lib.hid hd;clear hd hE;show Calls _ _ _ _ (fun e w'=>∃d,e=.returned d∧Below w.heap.size w w'∧Zao w'.cell? d (Zi4 x.hdr.author x.hdr.round x.hdr.batches x.hdr.parents));obtain⟨D,hD'⟩:∃D,Hid (Zi4 x.hdr.author x.hdr.round x.hdr.batches x.hdr.parents=D):=⟨_,rfl⟩;rw[hD'.out]at Hd⊢
 go_enter Tryz.func29,Tryz.ntmps29
 go_upto_region 1 with fail
 refine Zo fun W hk hsz hbl=>?_
 have q:=Zaa hbl;have f0:=hk.cell 0;have f1:=hk.cell 1;have f2:=hk.cell 2;have f3:=hk.cell 3;simp at f0 f1 f2 f3
 go_wp2_with fail
 refine(Hd.out _ (hb.mono RDig.mono q) (hp.mono RDig.mono q) (hT.mono q)).mono ?_;rintro e w2 ⟨d,rfl,hb2,rd⟩;have hbl2:=hbl.trans (hb2.mono hbl.size);obtain⟨dA,dc,rfl,-⟩:=id rd;go_wp2;go_ret;exact⟨_,rfl,hbl2,rd.mono (View.from_le _ _)⟩
theorem RVws.at2{b o n c:Nat}{xs:List Vw}(hr:RSl 6 RVw 112 h (.slice (some ⟨b,o,none⟩) n c) xs)(k:Nat)(hk:k<xs.length):∃vc,h ⟨b,o+k*6+2,none⟩=some vc∧RCrts h vc xs[k].certs:=by
 obtain⟨_,hx⟩:=RVws.at hr;obtain⟨b',o',vc,vb,vv,vp,ea,_,_,h2,_,_,_,rc,_⟩:=hx k hk;injection ea with ea;injection ea with e1 e2 _;subst e1 e2;exact⟨vc,h2,rc⟩
theorem RCrts.at2{b o n c:Nat}{xs:List Crt}(hr:RCrts h (.slice (some ⟨b,o,none⟩) n c) xs)(k:Nat)(hk:k<xs.length):∃vb vp vv,h ⟨b,o+k*5,none⟩=some (.int .i64 xs[k].hdr.author)∧h ⟨b,o+k*5+1,none⟩=some (.int .i64 xs[k].hdr.round)∧h ⟨b,o+k*5+2,none⟩=some vb∧h ⟨b,o+k*5+3,none⟩=some vp∧h ⟨b,o+k*5+4,none⟩=some vv∧RDigs h vb xs[k].hdr.batches∧RDigs h vp xs[k].hdr.parents∧RIs h vv xs[k].voters:=by
 obtain⟨_,_,_,hx⟩:=RCrts.at hr;obtain⟨b',o',vb,vp,vv,ea,r⟩:=hx k hk;injection ea with ea;injection ea with e1 e2 _;subst e1 e2;exact⟨vb,vp,vv,r⟩
theorem RCrts.some{xs:List Crt}(hr:RCrts h v xs)(h0:0<xs.length):∃b o c,v=.slice (.some ⟨b,o,none⟩) xs.length c:=by
 obtain⟨A,c,rfl,_⟩:=id hr;obtain⟨_,_,_,hx⟩:=RCrts.at hr;obtain⟨b,o,_,_,_,rfl,_⟩:=hx 0 h0;exact⟨b,o,c,rfl⟩
theorem one_any(A1:Option Addr)(n1 c1:Nat)(v2:Value)(aw:Int)(v3:Value)(V:List Vw)(w:World)(hV:RSl 6 RVw 112 w.cell? (.slice A1 n1 c1) V)(h2:∃A n c,v2=.slice A n c)(h3:∃A n c,v3=.slice A n c)(hT:Tabs w.cell?)(hlaw:∀i k (hi:i<V.length) (hk:k<V.length),∀x∈V[i].certs,∀y∈V[k].certs,x.hdr.author=y.hdr.author→x.hdr.round=y.hdr.round→hdR x.hdr=hdR y.hdr) :
 Calls Tryz.prog 18 #[.agg #[.slice A1 n1 c1,v2,.int .i64 aw,v3]] w fun e w'=>e=.returned (.bool true)∧Below w.heap.size w w':=by
 obtain⟨A2,n2,c2,rfl⟩:=h2;obtain⟨A3,n3,c3,rfl⟩:=h3;obtain⟨hn1,hx⟩:=RVws.at hV;obtain rfl:=hn1;have Hlaw:=Lib.hid hlaw;have hVs:=hV.small (by decide)
 have HA:Hid (0<V.length→∃b o,A1=some ⟨b,o,none⟩):=Lib.hid (fun h0=>by
  obtain⟨b,o,_,_,_,_,e,_⟩:=hx 0 h0
  exact⟨b,o,e⟩)
 clear hlaw hx
 go_enter Tryz.func18,Tryz.ntmps18
 go_upto_region 1 with fail
 refine Zo fun W hk hsz hbl=>?_
 clear hsz;have hz:=hbl.size;have hTW:=hT.mono (Zaa hbl);have hVW:=hV.mono RVw.mono (Zaa hbl);clear hV hT;go_wp2
 go_loopw [3,4,5,6,7,8] (fun i _ _ _ _ _ wr=>∃a:Nat,a≤V.length∧i=.int .i64 a∧Below W.heap.size W wr) (fun i _ _ _ _ _ _=>V.length-(intOf i).toNat)
 case atStart=>exact⟨0,Nat.zero_le _,rfl,Below.refl _ _⟩
 case round =>
  obtain⟨a,ha,rfl,hbr⟩:=hrel;have g0:=(hk.kept hbr).cell 0;simp at g0
  by_cases hlt:a<V.length
  ·have haI:(a:Int)<V.length:=by omega
   obtain⟨bv,ov,rfl⟩:=HA.out (by omega);clear HA;obtain⟨wa,hwa⟩:∃wa:World,wa=wr:=⟨_,rfl⟩;subst hwa;go_wp2
   go_loopw [4,5,6,7,8] (fun i _ _ _ _ wr=>∃b:Nat,b≤a+1∧i=.int .i64 b∧Below W.heap.size W wr) (fun i _ _ _ _ _=>a+1-(intOf i).toNat)
   case atStart=>exact⟨0,Nat.zero_le _,rfl,hbr⟩
   case round =>
    obtain⟨b,hb,rfl,hbr⟩:=hrel
    by_cases hlb:b≤a
    ·have hbI:(b:Int)≤a:=by omega
     have hbl':b<V.length:=by omega
     have hbI2:(b:Int)<V.length:=by omega
     obtain⟨va,xa,ra⟩:=RVws.at2 hVW a hlt;obtain⟨vb,xb,rb⟩:=RVws.at2 hVW b hbl';have Hl:=Lib.hid (Hlaw.out a b hlt hbl');generalize V[a].certs=CA at *;generalize V[b].certs=CB at *;obtain⟨wb,hwb⟩:∃wb:World,wb=wr:=⟨_,rfl⟩;subst hwb;have hCAs:=ra.small (by decide);have hCBs:=rb.small (by decide);obtain⟨aA,ac,rfl,-⟩:=id ra;obtain⟨bA,bc,rfl,-⟩:=id rb;go_wp2
     go_loopw [5,6,7,8] (fun i _ _ _ wr=>∃x:Nat,x≤CA.length∧i=.int .i64 x∧Below W.heap.size W wr) (fun i _ _ _ _=>CA.length-(intOf i).toNat)
     case atStart=>exact⟨0,Nat.zero_le _,rfl,hbr⟩
     case round =>
      obtain⟨x,hx,rfl,hbr⟩:=hrel;have g0:=(hk.kept hbr).cell 0;simp at g0;have q:=Zaa hbr;have ya:=q _ _ xa;have yb:=q _ _ xb
      by_cases hlx:x<CA.length
      ·have hxI:(x:Int)<CA.length:=by omega
       obtain⟨ba,oa,ca,ea⟩:=RCrts.some ra (by omega);injection ea with ea1 _ ea2;subst ea1 ea2;obtain⟨ab,ap,av,e0,e1,e2,e3,e4,r1,r2,r3⟩:=RCrts.at2 ra x hlx;have hmx:Hid (CA[x]∈CA):=Lib.hid (List.getElem_mem hlx);generalize CA[x]=X at *;obtain⟨wx,hwx⟩:∃wx:World,wx=wr:=⟨_,rfl⟩;subst hwx;go_wp2
       go_loopw [6,7,8] (fun i _ _ wr=>∃y:Nat,y≤CB.length∧i=.int .i64 y∧Below W.heap.size W wr) (fun i _ _ _=>CB.length-(intOf i).toNat)
       case atStart=>exact⟨0,Nat.zero_le _,rfl,hbr⟩
       case round =>
        obtain⟨y,hy,rfl,hbr⟩:=hrel;have hzr:=hbr.size;have g0:=(hk.kept hbr).cell 0;simp at g0;have q:=Zaa hbr;have ya:=q _ _ xa;have yb:=q _ _ xb
        by_cases hly:y<CB.length
        ·have hyI:(y:Int)<CB.length:=by omega
         obtain⟨bb,ob,cb,eb⟩:=RCrts.some rb (by omega);injection eb with eb1 _ eb2;subst eb1 eb2;obtain⟨bb',bp,bv',f0,f1,f2,f3,f4,t1,t2,t3⟩:=RCrts.at2 rb y hly;have hmy:Hid (CB[y]∈CB):=Lib.hid (List.getElem_mem hly);generalize CB[y]=Y at *;have i0:=q _ _ e0;have i1:=q _ _ e1;have i2:=q _ _ e2;have i3:=q _ _ e3;have i4:=q _ _ e4;have j0:=q _ _ f0;have j1:=q _ _ f1;have j2:=q _ _ f2;have j3:=q _ _ f3;have j4:=q _ _ f4;obtain⟨abA,abc,rfl,-⟩:=id r1;obtain⟨apA,apc,rfl,-⟩:=id r2;obtain⟨avA,avc,rfl,-⟩:=id r3;obtain⟨bbA,bbc,rfl,-⟩:=id t1;obtain⟨bpA,bpc,rfl,-⟩:=id t2;obtain⟨bvA,bvc,rfl,-⟩:=id t3;have hkr:=hk.kept hbr
         go_upto_region 14 with fail
         refine Zo fun W1 hk1 hsz1 hb1=>?_
         have q1:=Zaa hb1;have g0:=(hkr.kept hb1).cell 0;simp at g0;have yb:=q1 _ _ yb;have ya:=q1 _ _ ya;have j0:=q1 _ _ j0;have j1:=q1 _ _ j1;have j2:=q1 _ _ j2;have j3:=q1 _ _ j3;have j4:=q1 _ _ j4;have i0:=q1 _ _ i0;have i1:=q1 _ _ i1;have i2:=q1 _ _ i2;have i3:=q1 _ _ i3;have i4:=q1 _ _ i4;clear hsz1
         go_upto_region 15 with fail
         refine Zo fun W2 hk2 hsz2 hb2=>?_
         clear hsz2;have hk12:=hk1.kept hb2;have hbr2:=hbr.trans ((hb1.trans (hb2.mono hb1.size)).mono hzr);have hz2:=hbr2.size;have q2:=Zaa hb2;have g0:=(hk.kept hbr2).cell 0;have m0:=hk12.cell 0;have m1:=hk12.cell 1;have p0:=hk2.cell 0;have p1:=hk2.cell 1;simp at g0 m0 m1 p0 p1;have yb:=q2 _ _ yb;have ya:=q2 _ _ ya;have j0:=q2 _ _ j0;have j1:=q2 _ _ j1;have j2:=q2 _ _ j2;have j3:=q2 _ _ j3;have j4:=q2 _ _ j4;have i0:=q2 _ _ i0;have i1:=q2 _ _ i1;have i2:=q2 _ _ i2;have i3:=q2 _ _ i3;have i4:=q2 _ _ i4;have qW:=Zaa hbr2;have hT2:=hTW.mono qW;have Hr:=Lib.hid (And.intro (r1.mono RDig.mono qW) (And.intro (r2.mono RDig.mono qW) (And.intro (t1.mono RDig.mono qW) (t2.mono RDig.mono qW))));have hle:=Hl.out X hmx.out Y hmy.out;have HM:=Lib.hid (And.intro m0 (And.intro m1 (And.intro p0 p1)));have HG:=Lib.hid (And.intro g0 (And.intro ya yb));have HI:=Lib.hid (And.intro i0 (And.intro i1 (And.intro i2 (And.intro i3 i4))));have HJ:=Lib.hid (And.intro j0 (And.intro j1 (And.intro j2 (And.intro j3 j4))));have Hle:=Lib.hid hle;clear hle g0 ya yb i0 i1 i2 i3 i4 j0 j1 j2 j3 j4 m0 m1 p0 p1 hmx hmy hkr hk1;refine Zr [] (.q 0 (.q 1 (.q 2 (.q 3 (.q 4 (.q 5 (.q 6 (.q 7 (.q 8 (.q 9 (.q 10 (.q 11 (.q 12 (.q 13 (.q 14 (.q 15 (.q 16 (.q 17 (.q 18 (.q 19 (.q 20 (.q 21 (.q 24 (.q 25 (.q 26 (.q 27 (.q 28 (.q 29 (.q 30 (.q 31 (.q 32 (.l 22 (.alt 23 (.l 33 (.l 34 (.q 35 (.q 36 .nil)))) 33 (.alt 23 (.l 34 (.q 35 (.q 36 .nil))) 34 (.l 23 (.q 35 (.q 36 .nil))))))))))))))))))))))))))))))))))))) fun W5 hS=>?_
         by_cases hau:X.hdr.author=Y.hdr.author∧X.hdr.round=Y.hdr.round
         ·obtain⟨h1,h2⟩:=hau;have hdd:=Hle.out h1 h2;have a1:(X.hdr.author==Y.hdr.author)=true:=by simpa using h1
          have a2:(X.hdr.round==Y.hdr.round)=true:=by simpa using h2
          clear h1 h2
          repeat((first|refine pq (h:=⟨_,fun w' hS=>by(have q:=Zaa hS;obtain⟨m0,m1,p0,p1⟩:=HM.out;obtain⟨g0,ya,yb⟩:=HG.out;obtain⟨i0,i1,i2,i3,i4⟩:=HI.out;obtain⟨j0,j1,j2,j3,j4⟩:=HJ.out;have m0:=q _ _ m0;have m1:=q _ _ m1;have p0:=q _ _ p0;have p1:=q _ _ p1;have g0:=q _ _ g0;have ya:=q _ _ ya;have yb:=q _ _ yb;have i0:=q _ _ i0;have i1:=q _ _ i1;have i2:=q _ _ i2;have i3:=q _ _ i3;have i4:=q _ _ i4;have j0:=q _ _ j0;have j1:=q _ _ j1;have j2:=q _ _ j2;have j3:=q _ _ j3;have j4:=q _ _ j4;go_simp;exact rfl),?_⟩)|refine Zq ?_);simp only[sx])
          refine Zd fun K hK=>?_
          try simp only[sy]
          go_simp;obtain⟨u1,u2,u3,u4⟩:=Hr.out;have q5:=Zaa hS;refine(Zmv X _ _ _ _ (u1.mono RDig.mono q5) (u2.mono RDig.mono q5) ⟨_,_,_,rfl⟩ (hT2.mono q5)).mono ?_;rintro e w6 ⟨d6,rfl,hb6,rd6⟩;have hS6:=hS.trans (hb6.mono hS.size);obtain⟨d6A,d6c,rfl,-⟩:=id rd6;rw[hdd]at rd6;have hst:=Zet rd6;have q6:=Zaa hS6;refine hK.out _ _ (hS6) fun hS=>?_
          clear hK K
          try simp only[sx]
          repeat' (first
           |refine Zcl ?_ ?_
           |(
            refine Zd fun K hK=>?_
            try simp only[sy]
            go_simp
            first
             |(
              refine hK.out _ _ (by assumption) fun hS=>?_
              clear hK K
              try simp only[sx])
             |(
              refine(Zmv Y _ _ _ _ (u3.mono RDig.mono q6) (u4.mono RDig.mono q6) ⟨_,_,_,rfl⟩ (hT2.mono q6)).mono ?_;rintro e w7 ⟨d7,rfl,hb7,rd7⟩;have hS7:=hS6.trans (hb7.mono hS6.size);obtain⟨d7A,d7c,rfl,-⟩:=id rd7;have hst6:=Zet (rd6.mono (Zaa hb7));have hst7:=Zet rd7;refine hK.out _ _ (hS7) fun hS=>?_
              clear hK K
              try simp only[sx])))
          all_goals
           repeat(refine Zq ?_;simp only[sx])
           refine Zah ?_;go_wp2;go_roundw
           case rel=>exact⟨y+1,by omega,by go_num,hbr2.trans (hS7.mono hz2)⟩
           case measure=>simp[intOf];omega
         ·have hor:((X.hdr.author==Y.hdr.author)=false)∨((X.hdr.author==Y.hdr.author)=true∧(X.hdr.round==Y.hdr.round)=false):=by
           by_cases h1:X.hdr.author=Y.hdr.author
           ·exact .inr ⟨by simpa using h1,by simpa using fun h2=>hau ⟨h1,h2⟩⟩
           ·exact .inl (by simpa using h1)
          clear hau
          rcases hor with a1|⟨a1,a2⟩
          all_goals
           repeat((first|refine pq (h:=⟨_,fun w' hS=>by(have q:=Zaa hS;obtain⟨m0,m1,p0,p1⟩:=HM.out;have m0:=q _ _ m0;have m1:=q _ _ m1;have p0:=q _ _ p0;have p1:=q _ _ p1;go_simp;exact rfl),?_⟩)|refine Zq ?_);simp only[sx])
           refine pl_altl ?_ ?_
           rotate_left
           repeat(refine Zq ?_;simp only[sx])
           refine pl_altl ?_ ?_
           all_goals
            repeat(refine Zq ?_;simp only[sx])
            refine Zah ?_;go_wp2;go_roundw
            case rel=>exact⟨y+1,by omega,by go_num,hbr2.trans (hS.mono hz2)⟩
            case measure=>simp[intOf];omega
        ·have hyI:¬(y:Int)<CB.length:=by omega
         go_wp2;go_roundw
         case rel=>exact⟨x+1,by omega,by go_num,hbr⟩
         case measure=>simp[intOf];omega
      ·have hxI:¬(x:Int)<CA.length:=by omega
       go_wp2;go_roundw
       case rel=>exact⟨b+1,by omega,by go_num,hbr⟩
       case measure=>simp[intOf];omega
    ·have hbI:¬(b:Int)≤a:=by omega
     go_wp2;go_roundw
     case rel=>exact⟨a+1,by omega,by go_num,hbr⟩
     case measure=>simp[intOf];omega
  ·have haI:¬(a:Int)<V.length:=by omega
   go_wp2;go_ret;exact⟨rfl,hbl.trans (hbr.mono hz)⟩
theorem views_one{rg:Int}{l:List At}(hr:inB rg (-1) 3=true)(ha:Acts l):∀i k (hi:i<(Zhg (run rg l)).length) (hk:k<(Zhg (run rg l)).length),∀x∈(Zhg (run rg l))[i].certs,∀y∈(Zhg (run rg l))[k].certs,x.hdr.author=y.hdr.author→x.hdr.round=y.hdr.round→hdR x.hdr=hdR y.hdr:=by
 intro i k hi hk x hx y hy e1 e2;have h4:i<4:=by rw[Zes]at hi;exact hi
 have k4:k<4:=by rw[Zes]at hk;exact hk
 rw[Zwl]at hx hy;exact single_law (Zyo hr ha) (i:=(i:Int)) (k:=(k:Int)) ⟨by omega,by omega⟩ ⟨by omega,by omega⟩ hx hy e1 e2
end Fl
end Go.Proofs.YtinibgklgehdpaaGreatDoor
