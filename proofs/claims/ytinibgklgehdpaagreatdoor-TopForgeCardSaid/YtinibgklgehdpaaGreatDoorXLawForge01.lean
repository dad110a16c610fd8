/- A part of what the last text stands on. -/
import Derived.Test.YtinibgklgehdpaaGreatDoorRows
import Derived.WalkKit
import Derived.ProofKit
import Derived.OpenShut
import Derived.IntWalk
import Derived.BigQuiet
import Derived.Deep.QuietTactic
import Derived.Outline
import Derived.Lib.QuietBelow
import Derived.Lib.Hide
import Derived.Deep.RegionHeld3
import Derived.Laws.OwnMore
import Derived.SizedLaws
import Derived.Deep.Slices
import Derived.Lib.ConvBytes
import Derived.Laws.BytesArg
import Derived.Shelf.Abstract
import Derived.Deep.DeepCutAuto
import Derived.Deep.CutBlock
import Derived.Lib.EndianBits
import Derived.Laws.BitsLemmas
import Derived.WalkSpells
import Derived.Deep.MidRow
import Derived.StringKeys
import Derived.Maps.OwnSet
import Derived.Maps.AppendAt
import Derived.Laws.Strings
import Derived.Shelf.SlSortCmp.WholeK
import Derived.Shelf.SlSortCmp.NoneTotal
import Derived.Sort.OwnSortedInts
import Derived.RangeFuncBox
import Derived.RangeFuncLeaves
import Derived.OwnWalkIn
import Derived.TacticsInMore
import Derived.LoopNIn
import Derived.LoopIn
import Derived.Shelf.Small.Bits
import Derived.Shelf.Strconv.Itoa0
import Derived.Shelf.Sort.Plain
import Derived.Shelf.Slices.Turned
import Derived.Ground.Names2Prog
import Derived.Shelf.Slices.SearchI
import Derived.Shelf.Slices.In.SortNone
import Derived.Test.YtinibgklgehdpaaGreatDoorProg
import Derived.Shelf.SlGeneric
import Derived.Ground.SlsfProg
import Derived.OwnWalk
import Derived.LaidMore
import Derived.Stop.Joined
import Derived.Carry
import Derived.Test.YtinibgklgehdpaaGreatDoorCards
import Derived.Test.YtinibgklgehdpaaGreatDoorTie
import Derived.SevenTiedAt
import Derived.Test.YtinibgklgehdpaaGreatDoorK42
namespace Go.Proofs.YtinibgklgehdpaaGreatDoor
open Go.ChangeShapes Go.WideShapes Go.ChangeAt Go.RowKit Qa Qb Qc
set_option linter.all false
set_option maxHeartbeats 20000000
set_option maxRecDepth 100000
variable{P:Program}{w w' W:World}{K:Act→World→Prop}{v:Value}{cs:Array Value}{A:Option Addr}{h:View}{e:TypeId}{i g sz bs:Nat}{f:Fl.Ft}{α:Type}{xs:List α}{R:View→List Value→α→Prop}{l:List Crt}
theorem OwnVec.drew{enc:α→Value}{b:Nat}(h:OwnVec enc e w b v xs):OwnVec enc e w.drew b v xs:=h.kept (Zad w)
theorem opens_vec{t:TypeId}{enc:α→Value}{R:α→Prop}(ht:P.underlying t=some (.slice e))(hc:P.cellsOf e=1)(hbs:P.bytesOf e=bs)(he:Zf4 P e (fun _ cs a=>cs=[enc a]∧R a)) :
 Zf4 P t (fun h cs (xs:List α)=>∃v,cs=[v]∧RVec enc bs h v xs∧∀x∈xs,R x):=by
 intro H enc' w fuel cs x h hw;obtain⟨xs,v,rfl,A,c,rfl,h1,h2,h2',hn,h3⟩:=Zxa ht hc (by decide) hbs he H enc' w fuel cs x h hw;refine⟨xs,_,rfl,⟨A,c,rfl,h1,h2,h2',hn,fun hp=>?_⟩,?_⟩
 ·obtain⟨b,o,ea,hel⟩:=h3 hp;refine⟨b,o,ea,fun i hi=>?_⟩;obtain⟨cs',hl,hcell,rfl,_⟩:=hel i hi;have:=hcell 0 (by decide);simpa using this
 ·intro x hx;obtain⟨i,hi,rfl⟩:=List.getElem_of_mem hx;obtain⟨b,o,ea,hel⟩:=h3 (by omega);obtain⟨cs',hl,hcell,rfl,hR⟩:=hel i hi;exact hR
theorem from_but{b:Nat}(hg:g<b):VLe (View.from h b) (View.but h (some g)):=fun a v e=>by
 unfold View.from at e
 unfold View.but
 split at e
 ·cases e
 ·rename_i hne
  rw[if_neg (by intro h;injection h;omega)]
  exact e
section
variable {G:List Nat} {a b c w w':World}
theorem Chg.alloc(h:Chg G a b)(o:Obj):Chg G a (b.alloc o):=h.trans (.of_below (Zac b o) (Nat.le_refl _))
theorem Chg.frozen(h:Chg G a b)(k o:Nat)(hk:k<a.heap.size)(hn:k∉G):b.frozen? ⟨k,o,none⟩=a.frozen? ⟨k,o,none⟩:=World.frozen?_of_block (h.block k hk hn)
theorem OwnVec.chg{enc:α→Value}{B:Nat}(h:OwnVec enc e a B v xs)(hc:Chg G a b)(hG:∀k,v.ownBlock=some k→k∉G):OwnVec enc e b B v xs:=by
 obtain⟨h1,h2⟩:=h.own;refine⟨h1,?_⟩
 rcases h2 with h2|⟨g,cap,cur,h3,h4,h5,h6⟩
 ·exact .inl h2
 ·refine .inr ⟨g,cap,cur,h3,h4,?_,h6⟩;have hlt:g<a.heap.size:=(Array.getElem?_eq_some_iff.1 h5).1;rw[hc.block g hlt (hG g (by rw[h3];rfl))];exact h5
end
theorem OwnVec.at{α:Type}{enc:α→Value}{e:TypeId}{w:World}{B g n c:Nat}{xs:List α}(h:OwnVec enc e w B (.slice (some ⟨g,0,none⟩) n c) xs)(i:Nat)(hi:i<xs.length):w.cell? ⟨g,i,none⟩=some (enc xs[i]):=by
 have:=h.own.cells (g:=g) rfl i (enc xs[i]) (by simp[hi]);rw[Zbs,Nat.zero_add]at this;exact this
namespace Fl
section
variable {T T':Nat×Nat→Prop} {o o' o2:Own} {w w' w2:World}
theorem Fr.drew(hl:Lim o w):Fr T o w o w.drew:=.of_below hl (Zad w)
variable {α:Type} {sz:Nat} {R:View→List Value→α→Prop} {e:TypeId} {v:Value} {xs:List α} {t:Nat×Nat}
theorem Row.data(hR:Mono R)(h:Row o t sz R e w v xs)(hbs:xs.length*bs≤140737488355328){o2:Own}(hv:VLe (Zas o w) (Zas o2 w))(hz:∀g,v.ownBlock=some g→o2 g=none):RSl sz R bs (Zas o2 w) v xs:=by
 obtain⟨css,h1,h2,h3⟩:=h.own
 have hlen:∀i (hi:i<css.length),css[i].length=sz:=fun i hi=>by
  obtain⟨cs,q1,q2,_⟩:=h3 i (by omega);rw[List.getElem?_eq_getElem hi]at q1;injection q1 with q1;rw[q1];exact q2
 rcases id h1.2 with ⟨rfl,h0⟩|⟨g,cap,cur,rfl,k2,k3,k4,k5,k6,k7⟩
 ·have:xs=[]:=List.eq_nil_of_length_eq_zero h0;subst this;exact⟨none,0,rfl,Nat.le_refl _,Nat.zero_le _,by simp,fun _=>rfl,fun h=>by simp at h⟩
 ·refine⟨_,cap,rfl,k4,k5,hbs,(fun h=>by cases h),fun hp=>⟨g,0,rfl,fun i hi=>?_⟩⟩;obtain⟨cs,q1,q2,q3⟩:=h3 i hi;refine⟨cs,q2,fun j hj=>?_,hR _ _ _ _ q3 hv⟩;have hf:=Zgv hlen q1 hj;have hj':cs[j]?=some (cs[j]'(by omega)):=List.getElem?_eq_getElem _;rw[hj'];have:=h1.cells (g:=g) rfl (i*sz+j) _ (hf.trans hj');rw[Zbs]at this;unfold Zas;rw[if_neg (by rw[hz g rfl];simp)];rwa[Nat.zero_add]at this⊢
end
end Fl
theorem Keeps.refl(w:World):Keeps w w:=fun _ _ _ _ h=>h
section
variable {P:Program} {ops:Array Oper} {Q:Exit→Act→World→Prop} {S:World→Prop}
theorem wpPlanK_skip{o:Oper}{q:Bool}{rest:List (Nat×Bool)}{a:Act}(hS:S w)(ho:ops[i]?=some o)(hw:Region.wanted o (yielded ops a.tmps)=false)(h:Zfe P ops Q S K rest (a.put o.dst undef) w):Zfe P ops Q S K ((i,q)::rest) a w:=by
 cases q with
 |true=>exact⟨o,undef,ho,.inr ⟨hw,rfl⟩,h⟩
 |false =>
  show wpOp _ _ _ _ _ _ _;unfold wpOp;simp only[ho,hw];exact⟨hS,fun _=>h⟩
end
theorem opens_bytes:Zf4 Tryz.prog 54 (fun h cs (xs:List UInt8)=>∃v,cs=[v]∧Zao h v xs):=by
 have h5:Zf4 Tryz.prog 5 (fun _ cs (b:UInt8)=>cs=[encB b]∧True):=by
  intro H enc w fuel cs x h hw;obtain⟨n,rfl,hwf⟩:=Zo0 (k:=.u8) Tryz.underlying5 H enc w fuel cs x h hw;have hn:0≤n∧n≤255:=by simpa[Lit.wf,IntKind.min,IntKind.max,IntKind.signed,IntKind.bits]using hwf
  refine⟨UInt8.ofNat n.toNat,?_,trivial⟩;simp only[encB]
  congr 2
  rw[UInt8.toNat_ofNat'];omega
 intro H enc w fuel cs x h hw;obtain⟨xs,v,e,hr,_⟩:=opens_vec (R:=fun _=>True) Tryz.underlying54 (by kernel_rfl) (bs:=1) (by kernel_rfl) h5 H enc w fuel cs x h hw;exact⟨xs,v,e,hr⟩
def RHdr(h:View)(cs:List Value)(x:Hdr):Prop:=∃vb vp,cs=[.int .i64 x.author,.int .i64 x.round,vb,vp]∧RDigs h vb x.batches∧RDigs h vp x.parents
theorem RHdr.mono:Mono RHdr:=fun h h' cs x ⟨vb,vp,e,h1,h2⟩ hle=>⟨vb,vp,e,h1.mono RDig.mono hle,h2.mono RDig.mono hle⟩
theorem RCrt.zero(h:View):RCrt h [.int .i64 0,.int .i64 0,.slice none 0 0,.slice none 0 0,.slice none 0 0] zeroC:=⟨_,_,_,rfl,RDigs.nil _,RDigs.nil _,RVec.nil _ _ _⟩
theorem RCrts.of_own{b:Nat}{xs:List Crt}{bb:Nat}(h:OwnSl 5 (RFrom bb RCrt) 64 w b v xs)(hl:xs.length*88≤140737488355328):RCrts w.cell? v xs :=
 RSl.weak (fun h cs x hr=>RCrt.mono _ _ _ _ hr (View.from_le _ _)) (h.reads (RFrom.mono RCrt.mono) hl)
theorem RSlots.form{xs:List Slot}(hr:RSlots h v xs):∃A c,v=.slice A xs.length c:=by
 obtain⟨A,c,e,_⟩:=hr;exact⟨A,c,e⟩
theorem GrL.blk{v':Value}(h:GrL w w' v v'){t:TypeId}(hb:Blk w g t cs)(hne:some g≠v.ownBlock):Blk w' g t cs:=hb.grown h.gr hne
structure SkR (b:List UInt8) (at_:Nat) (s:RS):Prop where
 over:s.2=decide (b.length<at_)
 rest:s.2=false→s.1=b.drop at_
theorem SkR.start(b:List UInt8):SkR b 0 (b,false):=⟨by simp,fun _=>by simp⟩
theorem SkR.next{b:List UInt8}{a n:Nat}{s:RS}(h:SkR b a s):SkR b (a+n) (tkS n s):=by
 obtain⟨l,sh⟩:=s;obtain⟨h1,h2⟩:=h;simp only at h1 h2;unfold tkS;cases sh
 ·have h2:=h2 rfl;have h1:¬b.length<a:=by simpa using h1.symm
  subst h2;simp only[Bool.false_or,decide_eq_true_eq,List.length_drop];split
  ·exact⟨by simp;omega,fun h=>by cases h⟩
  ·refine⟨by simp;omega,fun _=>by simp[List.drop_drop]⟩
 ·have h1:b.length<a:=by simpa using h1.symm
  simp only[Bool.true_or,if_true];exact⟨by simp;omega,fun h=>by cases h⟩
theorem SkR.none{b:List UInt8}{a n:Nat}{s:RS}(h:SkR b a s)(ho:b.length<a+n):tkB n s=[]:=by
 obtain⟨l,sh⟩:=s;obtain⟨h1,h2⟩:=h;simp only at h1 h2;unfold tkB;rw[if_pos];cases sh
 ·rw[h2 rfl];have h1:¬b.length<a:=by simpa using h1.symm
  simp;omega
 ·rfl
theorem SkR.short{b:List UInt8}{a n:Nat}{s:RS}(h:SkR b a s):(tkS n s).2=decide (b.length<a+n):=h.next.over
theorem RBats.form{xs:List Bat}(hr:RBats h v xs):∃A c,v=.slice A xs.length c:=by
 obtain⟨A,c,e,_⟩:=hr;exact⟨A,c,e⟩
theorem RBats.len{xs:List Bat}(hr:RBats h v xs):xs.length*40≤140737488355328:=by
 obtain⟨_,_,_,_,_,h,_⟩:=hr;exact h
section
variable {P:Program} {ops:Array Oper} {Q:Exit→Act→World→Prop} {S:World→Prop} {C:List Nat}
theorem plt_skip{o:Oper}{p:PlT}{a:Act}(hS:S w)(ho:ops[i]?=some o)(hw:Region.wanted o (yielded ops a.tmps)=false)(h:p.wp P ops Q S C (a.put o.dst undef) w):PlT.wp P ops Q S C (.q i p) a w:=⟨o,undef,ho,.inr ⟨hw,rfl⟩,hS,h⟩
end
namespace Fl
theorem runE_zero{rogue:Int}{l:List At}(h:runE rogue l=0):inB rogue (-1) 3=true∧l.length≤3000∧∀a∈l,actE a=0:=by
 unfold runE at h;split at h
 ·cases h
 ·rename_i h1;split at h
  ·cases h
  ·refine⟨by simpa using h1,by omega,fun a ha=>?_⟩;split at h
   ·rename_i b hb;have:=List.find?_some hb;simp[h]at this
   ·rename_i hn;rw[List.find?_eq_none]at hn;simpa using hn a ha
theorem WI.run{rogue:Int}{l:List At}(h:runE rogue l=0):WI (run rogue l):=by
 obtain⟨h1,_,h3⟩:=runE_zero h;exact WI.fold l (fun a ha=>Zr2 (h3 a ha)) (WI.start h1)
theorem find_prefix{l':List Crt}(h:l <+: l'){p:Crt→Bool}(hs:(l.find? p).isSome=true):(l'.find? p).isSome=true:=by
 obtain⟨t,rfl⟩:=h;rw[List.find?_append];cases hf:l.find? p with
 |none=>rw[hf]at hs;cases hs
 |some x=>rfl
theorem filterMap_len{α β:Type}(f g:α→Option β)(hfg:∀a,(f a).isSome=true→(g a).isSome=true):∀(l:List α),(l.filterMap f).length≤(l.filterMap g).length
 |[]=>Nat.le_refl _
 |a::l=>by
  have ih:=filterMap_len f g hfg l
  rw[List.filterMap_cons,List.filterMap_cons]
  cases h1:f a with
  |none =>
   cases h2:g a with
   |none=>exact ih
   |some y=>simp only[List.length_cons];omega
  |some x =>
   have:=hfg a (by rw[h1];rfl)
   cases h2:g a with
   |none=>rw[h2]at this;cases this
   |some y=>simp only[List.length_cons];omega
theorem atRound_mono{l':List Crt}(h:l <+: l')(r:Int):(Zbu l r).length≤(Zbu l' r).length:=by
 unfold Zbu;exact filterMap_len _ _ (fun a=>find_prefix h) _
theorem nextFrom_ge(l:List Crt):∀(n:Nat) (r:Int),r≤Zdy l n r
 |0,r=>Int.le_refl _
 |n+1,r=>by
  rw[Zdy]
  split
  ·have:=nextFrom_ge l n (r+1);omega
  ·exact Int.le_refl _
theorem nextFrom_mono{l l':List Crt}(h:l <+: l'):∀(n n':Nat) (r:Int),n≤n'→Zdy l n r≤Zdy l' n' r
 |0,n',r,_=>nextFrom_ge l' n' r
 |n+1,0,r,hn=>by omega
 |n+1,n'+1,r,hn=>by
  have hm:=atRound_mono h r
  rw[Zdy,Zdy]
  split
  ·rw[if_pos (by omega)]
   exact nextFrom_mono h n n' (r+1) (by omega)
  ·split
   ·have:=nextFrom_ge l' n' (r+1);omega
   ·exact Int.le_refl _
theorem rndV_mono{l':List Crt}(h:l <+: l')(h1:dagF hD cF l=0)(h2:dagF hD cF l'=0):rndV l≤rndV l':=by
 unfold rndV;rw[if_pos h1,if_pos h2];exact nextFrom_mono h _ _ _ (by have:=h.length_le;omega)
structure Grows (f g:Ft):Prop where
 node:∀k:Int,0≤k→k≤3→Le (core (Zan f k)) (core (Zan g k))
 signs:f.signs <+: g.signs
theorem Grows.refl(f:Ft):Grows f f:=⟨fun _ _ _=>Le.refl _,List.prefix_refl _⟩
theorem Grows.round{g:Ft}(h:WI f)(hg:WI g)(q:Grows f g){k:Int}(h0:0≤k)(h3:k≤3):rndV (Zan f k).dag≤rndV (Zan g k).dag:=by
 obtain⟨ms,j,p1,_⟩:=h.node k h0 h3;obtain⟨ms',j',p2,_⟩:=hg.node k h0 h3;exact rndV_mono (q.node k h0 h3).dag (by rw[p1.dag];exact p1.co.dag) (by rw[p2.dag];exact p2.co.dag)
structure Still (i:Int) (f g:Ft):Prop where
 node:Zan g i=Zan f i
 signs:∃t,g.signs=f.signs++t∧∀s∈t,s.node≠i
theorem Still.refl(i:Int)(f:Ft):Still i f f:=⟨rfl,[],by simp,fun s hs=>by cases hs⟩
theorem Still.trans{i:Int}{g k:Ft}(h:Still i f g)(q:Still i g k):Still i f k:=by
 obtain⟨t,h1,h2⟩:=h.signs;obtain⟨u,q1,q2⟩:=q.signs;refine⟨q.node.trans h.node,t++u,by rw[q1,h1,List.append_assoc],fun s hs=>?_⟩
 rcases List.mem_append.1 hs with hs|hs
 ·exact h2 s hs
 ·exact q2 s hs
def roundA:List At:=[workA 0,Zc1 0,workA 1,Zc1 1,workA 2,Zc1 2,workA 3,Zc1 3,flowA]
structure Waits (k:Int) (f g:Ft):Prop where
 up:(Zan f k).up=true→(Zan g k).up=true
 own:(Zan f k).own≠none→(Zan g k).own≠none
 out:(Zan g k).out=(Zan f k).out
theorem Waits.refl(k:Int)(f:Ft):Waits k f f:=⟨id,id,rfl⟩
theorem Waits.trans{k:Int}{g h:Ft}(a:Waits k f g)(b:Waits k g h):Waits k f h:=⟨fun q=>b.up (a.up q),fun q=>b.own (a.own q),b.out.trans a.out⟩
theorem Same.refl(p:Vw):Same p p:=⟨rfl,rfl,rfl,rfl⟩
theorem forge_law(rogue:Int)(l:List At)(i:Int){t:ByteArray}(ht:decE (Zca t)≠0∨rogue<0):run rogue (l++[Zvl i t])=run rogue l:=by
 rw[Zul];show doA (run rogue l) (Zvl i t)=run rogue l;have hr:=Zgb rogue l;have e:¬(decE (Zca t)=0∧0≤(run rogue l).rogue):=by rw[hr];omega
 unfold doA Zvl;simp only;rw[if_neg (by decide),if_neg (by decide),if_neg (by decide),if_neg (by decide),if_pos trivial,if_neg e]
end Fl
theorem RMsgs.at{n c:Nat}{xs:List Msg}(hr:RMsgs h (.slice A n c) xs):n=xs.length∧n≤c∧n*264≤140737488355328∧∀k (hk:k<xs.length),∃b o vt vb vp vd cb cp cv,A=some ⟨b,o,none⟩∧(∀j u,(msgC xs[k] vt vb vp vd cb cp cv).toList[j]?=some u→h ⟨b,o+k*19+j,none⟩=some u)∧RMsg h xs[k] vt vb vp vd cb cp cv:=by
 obtain⟨A',c',e,h1,_,h2,_,h3⟩:=hr;injection e with e1 e2 e3;subst e1 e2 e3;refine⟨rfl,h1,h2,fun k hk=>?_⟩;obtain⟨b,o,ea,hc⟩:=h3 (by omega);obtain⟨cs,hl,hcell,vt,vb,vp,vd,cb,cp,cv,rfl,r⟩:=hc k hk;exact⟨b,o,vt,vb,vp,vd,cb,cp,cv,ea,fun j u hu=>by rw[hcell j (by rw[←hl];exact(List.getElem?_eq_some_iff.1 hu).1)];exact hu,r⟩
namespace Fl
theorem OwnA.base{b b':Nat}{l:List At}(h:OwnA w b v l)(hb:b'≤b):OwnA w b' v l:=by
 obtain⟨h1,h2⟩:=h.own;refine⟨h1,?_⟩
 rcases h2 with h2|⟨g,cap,cur,h3,h4,h5⟩
 ·exact .inl h2
 ·exact .inr ⟨g,cap,cur,h3,Nat.le_trans hb h4,h5⟩
theorem ROc.mono:Mono ROc:=fun h h' cs x ⟨a,b,c,e,h1,h2,h3⟩ hle=>⟨a,b,c,e,RSl.mono RVw.mono h1 hle,RSl.mono RSign.mono h2 hle,h3.mono hle⟩
theorem rounds_len(k:Nat):((List.replicate k roundA).flatten).length=9*k:=by
 induction k with
 |zero=>rfl
 |succ k ih=>rw[List.replicate_succ,List.flatten_cons,List.length_append,ih];show 9+9*k=_;omega
end Fl
theorem open_cellD{H:Type}{enc:TypeId×Value→H}{t:TypeId}{base:Nat}{d:DataW H}{p:List MemPlace}{R:View→Value→α→Prop}(ht:P.underlying t=some (.slice e))(hval:Value.okWide P W .any base t v)(h:DataW.Trod enc P W 0 (fun _=>true) true t v d p)(hw:∀n∈DataW.weights P t d,n≤reachBytes)(ho:Zf4 P t (fun h cs x=>∃v,cs=[v]∧R h v x)):∃x,R W.cell? v x:=by
 obtain⟨fuel,h⟩:=h;obtain⟨x,v',hc,hr⟩:=ho H enc W fuel _ _ h hw;obtain⟨a,n,c,rfl⟩:=okWide_slice ht hval;obtain rfl:Value.slice a n c=v':=by simpa[Value.cells]using hc
 exact⟨x,hr⟩
theorem RSl.small(hr:RSl sz R bs h v xs)(hb:0<bs):xs.length≤140737488355328:=by
 obtain⟨_,_,_,_,_,h1,_⟩:=hr;exact Nat.le_trans (Nat.le_mul_of_pos_right _ hb) h1
namespace Fl
theorem rng6{b p:Nat}{a0 a1 a2 a3 a4 a5:Value}(h0:h ⟨b,p,none⟩=some a0)(h1:h ⟨b,p+1,none⟩=some a1)(h2:h ⟨b,p+2,none⟩=some a2)(h3:h ⟨b,p+3,none⟩=some a3)(h4:h ⟨b,p+4,none⟩=some a4)(h5:h ⟨b,p+5,none⟩=some a5) :
 ∀(j:Nat) (u:Value),[a0,a1,a2,a3,a4,a5][j]?=some u→h ⟨b,p+j,none⟩=some u:=by
 intro j u hu
 match j,hu with
 |0,hu=>simp at hu;subst hu;exact h0
 |1,hu=>simp at hu;subst hu;exact h1
 |2,hu=>simp at hu;subst hu;exact h2
 |3,hu=>simp at hu;subst hu;exact h3
 |4,hu=>simp at hu;subst hu;exact h4
 |5,hu=>simp at hu;subst hu;exact h5
 |j+6,hu=>simp at hu
structure RanW (w w':World) (e:Ending) (rogue:Int) (l:List At):Prop where
 out:∃A1 c1 A2 n2 c2 A3 n3 c3,e=.returned (.tuple #[.agg #[.slice A1 4 c1,.slice A2 n2 c2,.int .i64 ((run rogue l).away.length:Nat),.slice A3 n3 c3],.bool true])∧Below w.heap.size w w'∧n2=(run rogue l).signs.length∧n3=(run rogue l).codes.length∧RSl 6 RVw 112 (View.from w'.cell? w.heap.size) (.slice A1 4 c1) (Zhg (run rogue l))∧RSigns (View.from w'.cell? w.heap.size) (.slice A2 n2 c2) (run rogue l).signs
theorem ranW_any(rogue:Int)(v:Value)(l:List At)(w:World)(hr:inB rogue (-1) 3=true)(rl:RAts w.cell? v l)(ha:Acts l)(hl:l.length≤3000)(hT:Tabs w.cell?) :
 Calls Tryz.prog 14 #[.int .i64 rogue,v] w fun e w'=>RanW w w' e rogue l:=by
 refine(Zzc rogue v l w hr rl ha hl hT).mono ?_;rintro e w' ⟨cs,rfl,hb,r⟩;obtain⟨A1,c1,A2,c2,A3,c3,rfl,r1,r2,r3⟩:=Zwz r;exact⟨_,_,_,_,_,_,_,_,rfl,hb,rfl,rfl,r1,r2⟩
end Fl
section
variable {H:Type} {enc:TypeId×Value→H} {W:World} {base:Nat} {v:Value} {d:DataW H} {p:List MemPlace}
theorem open_bytesD(hval:Value.okWide Tryz.prog W .any base 54 v)(h:DataW.Trod enc Tryz.prog W 0 (fun _=>true) true 54 v d p)(hw:∀n∈DataW.weights Tryz.prog 54 d,n≤reachBytes):∃b,Zao W.cell? v b:=open_cellD (R:=Zao) Tryz.underlying54 hval h hw opens_bytes
end
end Go.Proofs.YtinibgklgehdpaaGreatDoor
