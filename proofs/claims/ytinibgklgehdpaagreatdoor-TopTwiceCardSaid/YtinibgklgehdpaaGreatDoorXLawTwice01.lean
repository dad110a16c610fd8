/- The law TopTwice: what is read back is read back the same again: it answers true at every argument, and changes none of them: no condition; its card: the tables tied to the program's text. -/
import Derived.WalkKit
import Derived.ProofKit
import Derived.OpenShut
import Derived.IntWalk
import Derived.BigQuiet
import Derived.Deep.QuietTactic
import Derived.Outline
import Derived.Lib.QuietBelow
import Derived.Lib.Hide
import Derived.Deep.RegionHeld3
import Derived.Laws.OwnMore
import Derived.SizedLaws
import Derived.Deep.Slices
import Derived.Lib.ConvBytes
import Derived.Laws.BytesArg
import Derived.Shelf.Abstract
import Derived.Deep.DeepCutAuto
import Derived.Deep.CutBlock
import Derived.Lib.EndianBits
import Derived.Laws.BitsLemmas
import Derived.WalkSpells
import Derived.Deep.MidRow
import Derived.StringKeys
import Derived.Maps.OwnSet
import Derived.Maps.AppendAt
import Derived.Laws.Strings
import Derived.Shelf.SlSortCmp.WholeK
import Derived.Shelf.SlSortCmp.NoneTotal
import Derived.Sort.OwnSortedInts
import Derived.RangeFuncBox
import Derived.RangeFuncLeaves
import Derived.OwnWalkIn
import Derived.TacticsInMore
import Derived.LoopNIn
import Derived.LoopIn
import Derived.Shelf.Small.Bits
import Derived.Shelf.Strconv.Itoa0
import Derived.Shelf.Sort.Plain
import Derived.Shelf.Slices.Turned
import Derived.Ground.Names2Prog
import Derived.Shelf.Slices.SearchI
import Derived.Shelf.Slices.In.SortNone
import Derived.Shelf.SlGeneric
import Derived.Ground.SlsfProg
import Derived.OwnWalk
import Derived.Carry
import Derived.SevenTiedAt
import Derived.LaidMore
import Derived.Stop.Joined
import Derived.Test.YtinibgklgehdpaaGreatDoorK42
namespace Go.Proofs.YtinibgklgehdpaaGreatDoor
open Go.ChangeShapes Go.WideShapes Go.ChangeAt Go.RowKit Qa Qb Qc
set_option linter.unusedVariables false
set_option linter.unusedSimpArgs false
set_option linter.unnecessarySimpa false
set_option maxHeartbeats 20000000
set_option maxRecDepth 100000
theorem OwnVec.drew {α:Type} {enc:α→Value} {e:TypeId} {w:World} {b:Nat} {v:Value} {xs:List α} (h:OwnVec enc e w b v xs):OwnVec enc e w.drew b v xs:=h.kept (Zad w)
section
variable {G:List Nat} {a b c w w':World}
theorem Chg.alloc (h:Chg G a b) (o:Obj):Chg G a (b.alloc o):=h.trans (.of_below (Zac b o) (Nat.le_refl _))
theorem Chg.frozen (h:Chg G a b) (k o:Nat) (hk:k<a.heap.size) (hn:k∉G):b.frozen? ⟨k,o,none⟩=a.frozen? ⟨k,o,none⟩:=World.frozen?_of_block (h.block k hk hn)
theorem OwnVec.chg {α:Type} {enc:α→Value} {e:TypeId} {B:Nat} {v:Value} {xs:List α} (h:OwnVec enc e a B v xs) (hc:Chg G a b) (hG:∀k,v.ownBlock=some k→k∉G):OwnVec enc e b B v xs:=by
 obtain ⟨h1,h2⟩:=h.own;refine ⟨h1,?_⟩
 rcases h2 with h2|⟨g,cap,cur,h3,h4,h5,h6⟩
 ·exact .inl h2
 ·refine .inr ⟨g,cap,cur,h3,h4,?_,h6⟩;have hlt:g<a.heap.size:=(Array.getElem?_eq_some_iff.1 h5).1;rw[hc.block g hlt (hG g (by rw[h3];rfl))];exact h5
end
theorem OwnVec.at {α:Type} {enc:α→Value} {e:TypeId} {w:World} {B g n c:Nat} {xs:List α} (h:OwnVec enc e w B (.slice (some ⟨g,0,none⟩) n c) xs) (i:Nat) (hi:i<xs.length):w.cell? ⟨g,i,none⟩=some (enc xs[i]):=by
 have:=h.own.cells (g:=g) rfl i (enc xs[i]) (by simp[hi]);rw[Zbs,Nat.zero_add] at this;exact this
namespace Fl
section
variable {T T':Nat×Nat→Prop} {o o' o2:Own} {w w' w2:World}
theorem Fr.drew (hl:Lim o w):Fr T o w o w.drew:=.of_below hl (Zad w)
variable {α:Type} {sz:Nat} {R:View→List Value→α→Prop} {e:TypeId} {v:Value} {xs:List α} {t:Nat×Nat}
theorem Row.data (hR:Mono R) {bs:Nat} (h:Row o t sz R e w v xs) (hbs:xs.length*bs≤140737488355328) {o2:Own} (hv:VLe (Zas o w) (Zas o2 w)) (hz:∀g,v.ownBlock=some g→o2 g=none):RSl sz R bs (Zas o2 w) v xs:=by
 obtain ⟨css,h1,h2,h3⟩:=h.own
 have hlen:∀i (hi:i<css.length),css[i].length=sz:=fun i hi=>by
  obtain ⟨cs,q1,q2,_⟩:=h3 i (by omega);rw[List.getElem?_eq_getElem hi] at q1;injection q1 with q1;rw[q1];exact q2
 rcases id h1.2 with ⟨rfl,h0⟩|⟨g,cap,cur,rfl,k2,k3,k4,k5,k6,k7⟩
 ·have:xs=[]:=List.eq_nil_of_length_eq_zero h0;subst this;exact ⟨none,0,rfl,Nat.le_refl _,Nat.zero_le _,by simp,fun _=>rfl,fun h=>by simp at h⟩
 ·refine ⟨_,cap,rfl,k4,k5,hbs,(fun h=>by cases h),fun hp=>⟨g,0,rfl,fun i hi=>?_⟩⟩;obtain ⟨cs,q1,q2,q3⟩:=h3 i hi;refine ⟨cs,q2,fun j hj=>?_,hR _ _ _ _ q3 hv⟩;have hf:=Zgv hlen q1 hj;have hj':cs[j]?=some (cs[j]'(by omega)):=List.getElem?_eq_getElem _;rw[hj'];have:=h1.cells (g:=g) rfl (i*sz+j) _ (hf.trans hj');rw[Zbs] at this;unfold Zas;rw[if_neg (by rw[hz g rfl];simp)];rwa[Nat.zero_add] at this⊢
end
end Fl
theorem Keeps.refl (w:World):Keeps w w:=fun _ _ _ _ h=>h
section
variable {P:Program} {ops:Array Oper} {Q:Exit→Act→World→Prop} {S:World→Prop}
theorem wpPlanK_skip {K:Act→World→Prop} {i:Nat} {o:Oper} {q:Bool} {rest:List (Nat×Bool)} {a:Act} {w:World} (hS:S w) (ho:ops[i]?=some o) (hw:Region.wanted o (yielded ops a.tmps)=false)
 (h:Zfe P ops Q S K rest (a.put o.dst undef) w):Zfe P ops Q S K ((i,q)::rest) a w:=by
 cases q with
 |true=>exact ⟨o,undef,ho,.inr ⟨hw,rfl⟩,h⟩
 |false =>
  show wpOp _ _ _ _ _ _ _;unfold wpOp;simp only[ho,hw];exact ⟨hS,fun _=>h⟩
end
def RHdr (h:View) (cs:List Value) (x:Hdr):Prop:=∃vb vp,cs=[.int .i64 x.author,.int .i64 x.round,vb,vp]∧RDigs h vb x.batches∧RDigs h vp x.parents
theorem RHdr.mono:Mono RHdr:=fun h h' cs x ⟨vb,vp,e,h1,h2⟩ hle=>⟨vb,vp,e,h1.mono RDig.mono hle,h2.mono RDig.mono hle⟩
theorem RCrt.zero (h:View):RCrt h [.int .i64 0,.int .i64 0,.slice none 0 0,.slice none 0 0,.slice none 0 0] zeroC:=⟨_,_,_,rfl,RDigs.nil _,RDigs.nil _,RVec.nil _ _ _⟩
theorem RCrts.of_own {w:World} {b:Nat} {v:Value} {xs:List Crt} {bb:Nat} (h:OwnSl 5 (RFrom bb RCrt) 64 w b v xs) (hl:xs.length*88≤140737488355328):RCrts w.cell? v xs :=
 RSl.weak (fun h cs x hr=>RCrt.mono _ _ _ _ hr (View.from_le _ _)) (h.reads (RFrom.mono RCrt.mono) hl)
theorem RSlots.form {h:View} {v:Value} {xs:List Slot} (hr:RSlots h v xs):∃A c,v=.slice A xs.length c:=by
 obtain ⟨A,c,e,_⟩:=hr;exact ⟨A,c,e⟩
theorem GrL.blk {w w':World} {v v':Value} (h:GrL w w' v v') {g:Nat} {t:TypeId} {cs:Array Value} (hb:Blk w g t cs) (hne:some g≠v.ownBlock):Blk w' g t cs:=hb.grown h.gr hne
structure SkR (b:List UInt8) (at_:Nat) (s:RS):Prop where
 over:s.2=decide (b.length<at_)
 rest:s.2=false→s.1=b.drop at_
theorem SkR.start (b:List UInt8):SkR b 0 (b,false):=⟨by simp,fun _=>by simp⟩
theorem SkR.next {b:List UInt8} {a n:Nat} {s:RS} (h:SkR b a s):SkR b (a+n) (tkS n s):=by
 obtain ⟨l,sh⟩:=s;obtain ⟨h1,h2⟩:=h;simp only at h1 h2;unfold tkS;cases sh
 ·have h2:=h2 rfl;have h1:¬b.length<a:=by simpa using h1.symm
  subst h2;simp only[Bool.false_or,decide_eq_true_eq,List.length_drop];split
  ·exact ⟨by simp;omega,fun h=>by cases h⟩
  ·refine ⟨by simp;omega,fun _=>by simp[List.drop_drop]⟩
 ·have h1:b.length<a:=by simpa using h1.symm
  simp only[Bool.true_or,if_true];exact ⟨by simp;omega,fun h=>by cases h⟩
theorem SkR.none {b:List UInt8} {a n:Nat} {s:RS} (h:SkR b a s) (ho:b.length<a+n):tkB n s=[]:=by
 obtain ⟨l,sh⟩:=s;obtain ⟨h1,h2⟩:=h;simp only at h1 h2;unfold tkB;rw[if_pos];cases sh
 ·rw[h2 rfl];have h1:¬b.length<a:=by simpa using h1.symm
  simp;omega
 ·rfl
theorem SkR.short {b:List UInt8} {a n:Nat} {s:RS} (h:SkR b a s):(tkS n s).2=decide (b.length<a+n):=h.next.over
theorem RBats.form {h:View} {v:Value} {xs:List Bat} (hr:RBats h v xs):∃A c,v=.slice A xs.length c:=by
 obtain ⟨A,c,e,_⟩:=hr;exact ⟨A,c,e⟩
theorem RBats.len {h:View} {v:Value} {xs:List Bat} (hr:RBats h v xs):xs.length*40≤140737488355328:=by
 obtain ⟨_,_,_,_,_,h,_⟩:=hr;exact h
section
variable {P:Program} {ops:Array Oper} {Q:Exit→Act→World→Prop} {S:World→Prop} {C:List Nat}
theorem plt_skip {i:Nat} {o:Oper} {p:PlT} {a:Act} {w:World} (hS:S w) (ho:ops[i]?=some o) (hw:Region.wanted o (yielded ops a.tmps)=false)
 (h:p.wp P ops Q S C (a.put o.dst undef) w):PlT.wp P ops Q S C (.q i p) a w:=⟨o,undef,ho,.inr ⟨hw,rfl⟩,hS,h⟩
end
namespace Fl
theorem runE_zero {rogue:Int} {l:List At} (h:runE rogue l=0):inB rogue (-1) 3=true∧l.length≤3000∧∀a∈l,actE a=0:=by
 unfold runE at h;split at h
 ·cases h
 ·rename_i h1;split at h
  ·cases h
  ·refine ⟨by simpa using h1,by omega,fun a ha=>?_⟩;split at h
   ·rename_i b hb;have:=List.find?_some hb;simp[h] at this
   ·rename_i hn;rw[List.find?_eq_none] at hn;simpa using hn a ha
theorem WI.run {rogue:Int} {l:List At} (h:runE rogue l=0):WI (run rogue l):=by
 obtain ⟨h1,_,h3⟩:=runE_zero h;exact WI.fold l (fun a ha=>Zr2 (h3 a ha)) (WI.start h1)
theorem find_prefix {l l':List Crt} (h:l <+: l') {p:Crt→Bool} (hs:(l.find? p).isSome=true):(l'.find? p).isSome=true:=by
 obtain ⟨t,rfl⟩:=h;rw[List.find?_append];cases hf:l.find? p with
 |none=>rw[hf] at hs;cases hs
 |some x=>rfl
theorem filterMap_len {α β:Type} (f g:α→Option β) (hfg:∀a,(f a).isSome=true→(g a).isSome=true):∀(l:List α),(l.filterMap f).length≤(l.filterMap g).length
 |[]=>Nat.le_refl _
 |a::l=>by
  have ih:=filterMap_len f g hfg l
  rw[List.filterMap_cons,List.filterMap_cons]
  cases h1:f a with
  |none =>
   cases h2:g a with
   |none=>exact ih
   |some y=>simp only[List.length_cons];omega
  |some x =>
   have:=hfg a (by rw[h1];rfl)
   cases h2:g a with
   |none=>rw[h2] at this;cases this
   |some y=>simp only[List.length_cons];omega
theorem atRound_mono {l l':List Crt} (h:l <+: l') (r:Int):(Zbu l r).length≤(Zbu l' r).length:=by
 unfold Zbu;exact filterMap_len _ _ (fun a=>find_prefix h) _
theorem nextFrom_ge (l:List Crt):∀(n:Nat) (r:Int),r≤Zdy l n r
 |0,r=>Int.le_refl _
 |n+1,r=>by
  rw[Zdy]
  split
  ·have:=nextFrom_ge l n (r+1);omega
  ·exact Int.le_refl _
theorem nextFrom_mono {l l':List Crt} (h:l <+: l'):∀(n n':Nat) (r:Int),n≤n'→Zdy l n r≤Zdy l' n' r
 |0,n',r,_=>nextFrom_ge l' n' r
 |n+1,0,r,hn=>by omega
 |n+1,n'+1,r,hn=>by
  have hm:=atRound_mono h r
  rw[Zdy,Zdy]
  split
  ·rw[if_pos (by omega)]
   exact nextFrom_mono h n n' (r+1) (by omega)
  ·split
   ·have:=nextFrom_ge l' n' (r+1);omega
   ·exact Int.le_refl _
theorem rndV_mono {l l':List Crt} (h:l <+: l') (h1:dagF hD cF l=0) (h2:dagF hD cF l'=0):rndV l≤rndV l':=by
 unfold rndV;rw[if_pos h1,if_pos h2];exact nextFrom_mono h _ _ _ (by have:=h.length_le;omega)
structure Grows (f g:Ft):Prop where
 node:∀k:Int,0≤k→k≤3→Le (core (Zan f k)) (core (Zan g k))
 signs:f.signs <+: g.signs
theorem Grows.refl (f:Ft):Grows f f:=⟨fun _ _ _=>Le.refl _,List.prefix_refl _⟩
theorem Grows.round {f g:Ft} (h:WI f) (hg:WI g) (q:Grows f g) {k:Int} (h0:0≤k) (h3:k≤3):rndV (Zan f k).dag≤rndV (Zan g k).dag:=by
 obtain ⟨ms,j,p1,_⟩:=h.node k h0 h3;obtain ⟨ms',j',p2,_⟩:=hg.node k h0 h3;exact rndV_mono (q.node k h0 h3).dag (by rw[p1.dag];exact p1.co.dag) (by rw[p2.dag];exact p2.co.dag)
theorem doA_rogues {f:Ft} {a:At} (h:a.kind=2∨a.kind=3∨a.kind=7∨a.kind=8) (hr:a.node=f.rogue):doA f a=f:=by
 unfold doA;rw[if_neg (by omega),if_neg (by omega),if_neg (by omega),if_neg (by omega),if_neg (by omega),if_neg (by simp[hr])]
theorem start_down {f:Ft} (h:WI f) {i:Int} (hi:0≤i∧i≤3) (hr:i≠f.rogue) (hd:(Zan f i).up=false):∃ms,NI (doA f (Zbk i)).signs (doA f (Zbk i)).rogue i (Zan (doA f (Zbk i)) i) ms ms.length∧(Zan (doA f (Zbk i)) i).up=true∧(doA f (Zbk i)).away=f.away:=by
 obtain ⟨ms,j,p1,_⟩:=h.node i hi.1 hi.2;have ej:=p1.down hd;subst ej;rw[Zmr h hi hr,Zev h.len hi];exact ⟨ms,p1.other (n':={ Zan f i with up:=true }) rfl rfl rfl rfl rfl rfl rfl rfl p1.turn (fun q=>by cases q),rfl,rfl⟩
structure Still (i:Int) (f g:Ft):Prop where
 node:Zan g i=Zan f i
 signs:∃t,g.signs=f.signs++t∧∀s∈t,s.node≠i
theorem Still.refl (i:Int) (f:Ft):Still i f f:=⟨rfl,[],by simp,fun s hs=>by cases hs⟩
theorem Still.trans {i:Int} {f g k:Ft} (h:Still i f g) (q:Still i g k):Still i f k:=by
 obtain ⟨t,h1,h2⟩:=h.signs;obtain ⟨u,q1,q2⟩:=q.signs;refine ⟨q.node.trans h.node,t++u,by rw[q1,h1,List.append_assoc],fun s hs=>?_⟩
 rcases List.mem_append.1 hs with hs|hs
 ·exact h2 s hs
 ·exact q2 s hs
def roundA:List At:=[workA 0,Zc1 0,workA 1,Zc1 1,workA 2,Zc1 2,workA 3,Zc1 3,flowA]
structure Waits (k:Int) (f g:Ft):Prop where
 up:(Zan f k).up=true→(Zan g k).up=true
 own:(Zan f k).own≠none→(Zan g k).own≠none
 out:(Zan g k).out=(Zan f k).out
theorem Waits.refl (k:Int) (f:Ft):Waits k f f:=⟨id,id,rfl⟩
theorem Waits.trans {k:Int} {f g h:Ft} (a:Waits k f g) (b:Waits k g h):Waits k f h:=⟨fun q=>b.up (a.up q),fun q=>b.own (a.own q),b.out.trans a.out⟩
theorem Same.refl (p:Vw):Same p p:=⟨rfl,rfl,rfl,rfl⟩
theorem twice_law {rogue:Int} (hr:inB rogue (-1) 3=true) {l:List At} (h:Acts l) {i x y:Int} (hi:0≤i∧i≤3) (hx:0≤x∧x≤400000) (hy:0≤y∧y≤400000) :
 Same (vwAt (run rogue (l++[Zb4 i x,Zbk i])) i) (vwAt (run rogue ((l++[Zb4 i x,Zbk i])++[Zb4 i y,Zbk i])) i)∧(vwAt (run rogue (l++[Zb4 i x,Zbk i])) i).up=(vwAt (run rogue ((l++[Zb4 i x,Zbk i])++[Zb4 i y,Zbk i])) i).up∧(run rogue (l++[Zb4 i x,Zbk i])).away.length=(run rogue ((l++[Zb4 i x,Zbk i])++[Zb4 i y,Zbk i])).away.length:=by
 have hs:Acts [Zb4 i x,Zbk i]:=Acts.cons (Zrx hi hx) (Acts.cons (Zh0 hi) Acts.nil);have hx':=Zyo hr (h.append hs);have ey:run rogue ((l++[Zb4 i x,Zbk i])++[Zb4 i y,Zbk i])=doA (doA (run rogue (l++[Zb4 i x,Zbk i])) (Zb4 i y)) (Zbk i):=by rw[Zul];rfl
 by_cases e:i=rogue
 ·have e2:i=(run rogue (l++[Zb4 i x,Zbk i])).rogue:=by rw[Zgb];exact e
  rw[ey,doA_rogues (a:=Zb4 i y) (.inr (.inr (.inl rfl))) e2,doA_rogues (a:=Zbk i) (.inr (.inr (.inr rfl))) e2];exact ⟨Same.refl _,rfl,rfl⟩
 ·have e2:i≠(run rogue (l++[Zb4 i x,Zbk i])).rogue:=by rw[Zgb];exact e
  have e0:i≠(run rogue l).rogue:=by rw[Zgb];exact e
  have hw:=Zyo hr h;obtain ⟨hd,hw1,ha1⟩:=Zti hw hi hx.1 e0;obtain ⟨ms,hN,hup,ha2⟩:=start_down hw1 hi (by rw[Zgi];exact e0) hd;have ex:run rogue (l++[Zb4 i x,Zbk i])=doA (doA (run rogue l) (Zb4 i x)) (Zbk i):=by rw[Zul];rfl
  rw[←ex] at hN hup;obtain ⟨q1,q2,q3,q4⟩:=Zts hx' hi hy.1 e2 hN hup;rw[Zt1 e2,ey,Zt1 (by rw[Zgi,Zgi];exact e2)];exact ⟨Zuj q1.symm,by rw[show (view (Zan (run rogue (l++[Zb4 i x,Zbk i])) i)).up=true from hup];exact q2.symm,by rw[q4]⟩
end Fl
theorem RMsgs.at {h:View} {A:Option Addr} {n c:Nat} {xs:List Msg} (hr:RMsgs h (.slice A n c) xs):n=xs.length∧n≤c∧n*264≤140737488355328∧∀k (hk:k<xs.length),∃b o vt vb vp vd cb cp cv,A=some ⟨b,o,none⟩∧(∀j u,(msgC xs[k] vt vb vp vd cb cp cv).toList[j]?=some u→h ⟨b,o+k*19+j,none⟩=some u)∧RMsg h xs[k] vt vb vp vd cb cp cv:=by
 obtain ⟨A',c',e,h1,_,h2,_,h3⟩:=hr;injection e with e1 e2 e3;subst e1 e2 e3;refine ⟨rfl,h1,h2,fun k hk=>?_⟩;obtain ⟨b,o,ea,hc⟩:=h3 (by omega);obtain ⟨cs,hl,hcell,vt,vb,vp,vd,cb,cp,cv,rfl,r⟩:=hc k hk;exact ⟨b,o,vt,vb,vp,vd,cb,cp,cv,ea,fun j u hu=>by rw[hcell j (by rw[←hl];exact (List.getElem?_eq_some_iff.1 hu).1)];exact hu,r⟩
namespace Fl
theorem OwnA.base {w:World} {b b':Nat} {v:Value} {l:List At} (h:OwnA w b v l) (hb:b'≤b):OwnA w b' v l:=by
 obtain ⟨h1,h2⟩:=h.own;refine ⟨h1,?_⟩
 rcases h2 with h2|⟨g,cap,cur,h3,h4,h5⟩
 ·exact .inl h2
 ·exact .inr ⟨g,cap,cur,h3,Nat.le_trans hb h4,h5⟩
theorem ROc.mono:Mono ROc:=fun h h' cs x ⟨a,b,c,e,h1,h2,h3⟩ hle=>⟨a,b,c,e,RSl.mono RVw.mono h1 hle,RSl.mono RSign.mono h2 hle,h3.mono hle⟩
theorem rounds_len (k:Nat):((List.replicate k roundA).flatten).length=9*k:=by
 induction k with
 |zero=>rfl
 |succ k ih=>rw[List.replicate_succ,List.flatten_cons,List.length_append,ih];show 9+9*k=_;omega
theorem rng6 {h:View} {b p:Nat} {a0 a1 a2 a3 a4 a5:Value} (h0:h ⟨b,p,none⟩=some a0) (h1:h ⟨b,p+1,none⟩=some a1) (h2:h ⟨b,p+2,none⟩=some a2) (h3:h ⟨b,p+3,none⟩=some a3) (h4:h ⟨b,p+4,none⟩=some a4) (h5:h ⟨b,p+5,none⟩=some a5) :
 ∀(j:Nat) (u:Value),[a0,a1,a2,a3,a4,a5][j]?=some u→h ⟨b,p+j,none⟩=some u:=by
 intro j u hu
 match j,hu with
 |0,hu=>simp at hu;subst hu;exact h0
 |1,hu=>simp at hu;subst hu;exact h1
 |2,hu=>simp at hu;subst hu;exact h2
 |3,hu=>simp at hu;subst hu;exact h3
 |4,hu=>simp at hu;subst hu;exact h4
 |5,hu=>simp at hu;subst hu;exact h5
 |j+6,hu=>simp at hu
end Fl
theorem trodAll_five {H:Type} {enc:TypeId×Value→H} {P:Program} {w:World} {base:Nat} {spare:Nat→Bool} {held:Bool} {t t' t'' t3 t4:TypeId} {args:Array Value} {ds:List (DataW H)} {ps:List MemPlace} (h:DataW.TrodAll enc P w base spare held [t,t',t'',t3,t4] args.toList ds ps) :
 ∃v v' v'' v3 v4 d d' d'' d3 d4 p p' p'' p3 p4,args=#[v,v',v'',v3,v4]∧ds=[d,d',d'',d3,d4]∧ps=p++p'++p''++p3++p4∧DataW.Trod enc P w base spare held t v d p∧DataW.Trod enc P w base spare held t' v' d' p'∧DataW.Trod enc P w base spare held t'' v'' d'' p''∧DataW.Trod enc P w base spare held t3 v3 d3 p3∧DataW.Trod enc P w base spare held t4 v4 d4 p4:=by
 obtain ⟨v,vs,d,ds',p,q,hargs,rfl,rfl,hd,h⟩:=trodAll_cons h;obtain ⟨v',vs',d',ds'',p',q',rfl,rfl,rfl,hd',h⟩:=trodAll_cons h;obtain ⟨v'',vs'',d'',ds''',p'',q'',rfl,rfl,rfl,hd'',h⟩:=trodAll_cons h;obtain ⟨v3,vs3,d3,ds3,p3,q3,rfl,rfl,rfl,hd3,h⟩:=trodAll_cons h;obtain ⟨v4,vs4,d4,ds4,p4,q4,rfl,rfl,rfl,hd4,h⟩:=trodAll_cons h;obtain ⟨rfl,rfl,rfl⟩:=trodAll_nil h;exact ⟨v,v',v'',v3,v4,d,d',d'',d3,d4,p,p',p'',p3,p4,by cases args;simp_all,rfl,by simp,hd,hd',hd'',hd3,hd4⟩
namespace Fl
theorem topTwice_any (v:Value) (l:List At) (n who x y:Int) (w:World) (rl:RAts w.cell? v l) (hg:∀g∈l,GOk g) (hn:I64 n) (hw:I64 who) (hx:I64 x) (hy:I64 y) (hT:Tabs w.cell?) :
 Calls Tryz.prog 7 #[v,.int .i64 n,.int .i64 who,.int .i64 x,.int .i64 y] w fun e w'=>e=.returned (.bool true)∧Below w.heap.size w w':=by
 have h1:=bad_any n;have h2:=Zd2 who 4;have h3:=Zd2 x 900;have h4:=Zd2 y 900;have hr:=Zz0 n;have hp:=Zb2 who (many:=4) (by decide);have hpx:=Zb2 x (many:=900) (by decide);have hpy:=Zb2 y (many:=900) (by decide);obtain ⟨B,hB⟩:∃P,Hid (badI n=P):=⟨_,rfl⟩;obtain ⟨i,hi⟩:∃P,Hid (Zcw who 4=P):=⟨_,rfl⟩;obtain ⟨X,hX⟩:∃P,Hid (Zcw x 900=P):=⟨_,rfl⟩;obtain ⟨Y,hY⟩:∃P,Hid (Zcw y 900=P):=⟨_,rfl⟩;rw[hB.out] at h1 hr;rw[hi.out] at h2 hp;rw[hX.out] at h3 hpx;rw[hY.out] at h4 hpy;have H1:=Lib.hid (fun w=>h1 w hn);have H2:=Lib.hid (fun w=>h2 w hw (by decide));have H3:=Lib.hid (fun w=>h3 w hx (by decide));have H4:=Lib.hid (fun w=>h4 w hy (by decide));have HG:=Lib.hid hg;have hi4:0≤i∧i≤3:=by omega
 have hX4:0≤X∧X≤400000:=by omega
 have hY4:0≤Y∧Y≤400000:=by omega
 obtain ⟨k,rfl⟩:∃k:Nat,i=k:=⟨i.toNat,by omega⟩;have hkl:k<4:=by omega
 have Hi4:=Lib.hid hi4;have HX4:=Lib.hid hX4;have HY4:=Lib.hid hY4;have Hr:=Lib.hid hr;obtain ⟨A,lc,rfl,hf⟩:=id rl;clear h1 h2 h3 h4 hB hi hX hY hg hn hw hx hy hp hpx hpy hf hi4 hX4 hY4 hr
 go_enter Tryz.func7,Tryz.ntmps7
 go_wp2_with fail
 refine (H1.out _).mono ?_;rintro e wz ⟨rfl,rfl⟩
 go_wp2_with fail
 refine (H2.out _).mono ?_;rintro e wz ⟨rfl,rfl⟩
 go_wp2_with fail
 refine (Zyn _ l 60 _ rl HG.out (by decide)).mono ?_;rintro e w1 ⟨v1,a,rfl,hb1,o1,ha,hal⟩;have Ha:=Lib.hid ha;obtain ⟨A1,c1,rfl⟩:=o1.form;have r1:=o1.reads (by omega);have hba:=Zac w1 (.cells #[.int .i64 7,.int .i64 k,.int .i64 X,.string ⟨#[]⟩,.int .i64 8,.int .i64 k,.int .i64 0,.string ⟨#[]⟩] 58);have hy:=RAts.ofBlk [Zb4 k X,Zbk k] (Blk.new w1 58 #[.int .i64 7,.int .i64 k,.int .i64 X,.string ⟨#[]⟩,.int .i64 8,.int .i64 k,.int .i64 0,.string ⟨#[]⟩]) rfl (by simp);have hbl1:=hb1.trans (hba.mono hb1.size);have hz1:=hbl1.size;clear o1 ha rl
 go_wp2_with fail
 refine (H3.out _).mono ?_;rintro e wz ⟨rfl,rfl⟩
 go_wp2_with fail
 refine (Zq3 _ _ a [Zb4 k X,Zbk k] _ (r1.mono RAt.mono (Zaa hba)) hy (by simp;omega)).mono ?_;rintro e w2 ⟨v2,rfl,hb2,o2⟩;have hbl2:=hbl1.trans (hb2.mono hz1);have hz2:=hbl2.size;have hl2:(a++[Zb4 k X,Zbk k]).length≤100:=by simp;omega
 have Ha2:Hid (Acts (a++[Zb4 k X,Zbk k])):=Ha.out.append (Acts.cons (Zrx Hi4.out HX4.out) (Acts.cons (Zh0 Hi4.out) Acts.nil));have Hlaw:=Lib.hid (twice_law Hr.out Ha.out Hi4.out HX4.out HY4.out);obtain ⟨ls,has⟩:∃ls,Hid (a++[Zb4 k X,Zbk k]=ls):=⟨_,rfl⟩;rw[has.out] at o2 hl2 Ha2 Hlaw;obtain ⟨A2,c2,rfl⟩:=o2.form;have r2:=o2.reads (by omega);clear o2 hy hba r1 has
 go_wp2_with fail
 refine (Zrj B _ ls _ Hr.out r2 Ha2.out (by omega) (hT.mono (Zaa hbl2))).mono ?_;rintro e w3 ⟨X1,x1,X2,xn,x2,X3,xm,x3,rfl,hb3,-,-,rxv,-⟩;have hbl3:=hbl2.trans (hb3.mono hz2);have hz3:=hbl3.size;have r3:=r2.mono RAt.mono (Zaa hb3);obtain ⟨AX,hAX⟩:∃a,Hid (((run B ls).away.length:Int)=a):=⟨_,rfl⟩;rw[hAX.out]
 go_upto_region 5 with fail
 refine Za7 _ _ _ (fun W=>Code.wp _ _ _ _ W) (fun W4 hk4 hsz4 hb4=>?_);clear hsz4;have hbl4:=hbl3.trans (hb4.mono hz3);have hz4:=hbl4.size;have r4:=r3.mono RAt.mono (Zaa hb4);have rx4:=rxv.mono RVw.mono (Zaa hb4);have hba:=Zac W4 (.cells #[.int .i64 7,.int .i64 k,.int .i64 Y,.string ⟨#[]⟩,.int .i64 8,.int .i64 k,.int .i64 0,.string ⟨#[]⟩] 58);have hy:=RAts.ofBlk [Zb4 k Y,Zbk k] (Blk.new W4 58 #[.int .i64 7,.int .i64 k,.int .i64 Y,.string ⟨#[]⟩,.int .i64 8,.int .i64 k,.int .i64 0,.string ⟨#[]⟩]) rfl (by simp);clear r2 r3 rxv
 go_wp2_with fail
 refine (H4.out _).mono ?_;rintro e wz ⟨rfl,rfl⟩
 go_wp2_with fail
 refine (Zq3 _ _ ls [Zb4 k Y,Zbk k] _ (r4.mono RAt.mono (Zaa hba)) hy (by simp;omega)).mono ?_;rintro e w5 ⟨v5,rfl,hb5,o5⟩;have hb45:=hba.trans (hb5.mono hba.size);have hbl5:=hbl4.trans (hb45.mono hz4);have hz5:=hbl5.size;have Ha5:Hid (Acts (ls++[Zb4 k Y,Zbk k])):=Ha2.out.append (Acts.cons (Zrx Hi4.out HY4.out) (Acts.cons (Zh0 Hi4.out) Acts.nil));have hl5:(ls++[Zb4 k Y,Zbk k]).length≤200:=by simp;omega
 obtain ⟨lt,hlt⟩:∃lt,Hid (ls++[Zb4 k Y,Zbk k]=lt):=⟨_,rfl⟩;rw[hlt.out] at o5 hl5 Ha5 Hlaw;obtain ⟨A5,c5,rfl⟩:=o5.form;have r5:=o5.reads (by omega);clear o5 hy hba hlt r4
 go_wp2_with fail
 refine (Zrj B _ lt _ Hr.out r5 Ha5.out (by omega) (hT.mono (Zaa hbl5))).mono ?_;rintro e w6 ⟨Y1,y1,Y2,yn,y2,Y3,ym,y3,rfl,hb6,-,-,ryv,-⟩;have hbl6:=hbl5.trans (hb6.mono hz5);have hz6:=hbl6.size;have hb46:=hb45.trans (hb6.mono hb45.size);have hk46:=hk4.kept hb46;have rx6:=rx4.mono RVw.mono (Zaa hb46);rw[←Hlaw.out.2.2,hAX.out]
 go_upto_region 6 with fail
 refine Za7 _ _ _ (fun W=>Code.wp _ _ _ _ W) (fun W7 hk7 hsz7 hb7=>?_);clear hsz7;have hbl7:=hbl6.trans (hb7.mono hz6);have hz7:=hbl7.size;have f1:=hk46.kept hb7;have g1:=f1.cell 0;have g3:=f1.cell 2;have g2:=hk7.cell 0;have g4:=hk7.cell 2;simp at g1 g2 g3 g4;have q7:=Zaa hb7;obtain ⟨-,hx⟩:=RVws.at (rx6.mono RVw.mono q7);obtain ⟨-,hy⟩:=RVws.at (ryv.mono RVw.mono q7);obtain ⟨b1,o1,c1,e1,t1,p1,rfl,x0,xr,xc,xb,xv,xp,rc1,rb1,rv1,rp1⟩:=hx k (by rw[Zes];exact hkl);obtain ⟨b2,o2,c2,e2,t2,p2,rfl,y0,yr,yc,yb,yv,yp,rc2,rb2,rv2,rp2⟩:=hy k (by rw[Zes];exact hkl);rw[Zwl] at x0 xr rc1 rb1 rv1 rp1 y0 yr rc2 rb2 rv2 rp2;have hL:=Hlaw.out;obtain ⟨hS,hU,-⟩:=hL;generalize vwAt (run B ls) k=P at *;generalize vwAt (run B lt) k=Q at *;rw[←hU] at y0;have HS:=Lib.hid hS;have hkI:(k:Int)<4:=by omega
 have HXR:=Lib.hid (rng6 x0 xr xc xb xv xp);have HYR:=Lib.hid (rng6 y0 yr yc yb yv yp);have HXC:=Lib.hid (And.intro rc1 (And.intro rb1 (And.intro rv1 rp1)));have HYC:=Lib.hid (And.intro rc2 (And.intro rb2 (And.intro rv2 rp2)));obtain ⟨cA1,cc1,rfl,-⟩:=id rc1;obtain ⟨bA1,bc1,rfl,-⟩:=id rb1;obtain ⟨vA1,vc1,rfl,-⟩:=id rv1;obtain ⟨pA1,pc1,rfl,-⟩:=id rp1;obtain ⟨cA2,cc2,rfl,-⟩:=id rc2;obtain ⟨bA2,bc2,rfl,-⟩:=id rb2;obtain ⟨vA2,vc2,rfl,-⟩:=id rv2;obtain ⟨pA2,pc2,rfl,-⟩:=id rp2;clear rc1 rb1 rv1 rp1 rc2 rb2 rv2 rp2 hx hy hAX rx4 rx6 ryv r5 hS hU xr xc xb xv xp yr yc yb yv yp hk46 f1 hk7 hk4 Hlaw;refine Zr [39] (.q 0 (.q 1 (.q 2 (.q 3 (.q 4 (.q 5 (.q 6 (.q 7 (.q 8 (.q 9 (.q 10 (.q 11 (.q 12 (.q 13 (.q 14 (.l 15 (.q 16 (.q 17 (.q 18 (.q 19 (.q 20 (.q 21 (.q 22 (.q 23 (.q 24 (.q 25 (.q 26 (.q 27 (.q 28 (.q 29 (.q 30 (.q 31 (.q 32 (.q 33 (.q 34 (.q 35 (.q 36 (.q 37 (.q 38 (.qc 39 .nil)))))))))))))))))))))))))))))))))))))))) fun W hS=>?_
 repeat ((first|refine pq (h:=⟨_,fun w' hS=>by (have k1:=Zaa hS _ _ g1;have k2:=Zaa hS _ _ g2;go_simp;exact rfl),?_⟩)|refine Zq ?_);simp only[sx])
 refine pl_q (by assumption) rfl rfl ?_;apply Exists.intro;refine ⟨fun w' hS=>Zmn 43 _ rfl _ _ rfl _ _ (fun j u hu=>Zaa hS _ _ (HXR.out j u hu)) Tryz.underlying43 rfl (by kernel_rfl),?_⟩;simp only[List.getElem_toArray,List.getElem_cons_zero,List.getElem_cons_succ,Act.put,List.setIfInBounds_toArray,List.set_cons_zero,List.set_cons_succ]
 repeat ((first|refine pq (h:=⟨_,fun w' hS=>by (have k1:=Zaa hS _ _ g1;have k2:=Zaa hS _ _ g2;go_simp;exact rfl),?_⟩)|refine Zq ?_);simp only[sx])
 refine pl_q (by assumption) rfl rfl ?_;apply Exists.intro;refine ⟨fun w' hS=>Zmn 43 _ rfl _ _ rfl _ _ (fun j u hu=>Zaa hS _ _ (HYR.out j u hu)) Tryz.underlying43 rfl (by kernel_rfl),?_⟩;simp only[List.getElem_toArray,List.getElem_cons_zero,List.getElem_cons_succ,Act.put,List.setIfInBounds_toArray,List.set_cons_zero,List.set_cons_succ]
 repeat (refine Zq ?_;simp only[sx])
 have qW:=Zaa hS;have hblW:=hbl7.trans (hS.mono hz7);have hzW:=hblW.size;refine Zd fun K hK=>?_
 try simp only[sy]
 go_simp;obtain ⟨s1,s2,s3,s4⟩:=HS.out;obtain ⟨rc1,rb1,rv1,-⟩:=HXC.out;obtain ⟨rc2,rb2,rv2,-⟩:=HYC.out;rw[←s1];refine (Kp.sameKnown_any P.up P.up P.round _ _ _ _ _ _ _ _ P.certs P.bats P.votes _ (rc1.mono RCrt.mono qW) (rb1.mono RBat.mono qW) (rv1.mono RSlot.mono qW) (by rw[s2];exact rc2.mono RCrt.mono qW) (by rw[s3];exact rb2.mono RBat.mono qW) (by rw[s4];exact rv2.mono RSlot.mono qW) ⟨_,_,_,rfl⟩ ⟨_,_,_,rfl⟩).mono ?_;rintro e w10 ⟨rfl,hb10⟩;clear s1 s2 s3 s4 rc1 rb1 rv1 rc2 rb2 rv2;refine hK.out _ _ (hS.trans (hb10.mono hS.size)) fun hS=>?_
 clear hK K
 try simp only[sx]
 repeat ((first|refine pq (h:=⟨_,fun w' hS=>by (have k1:=Zaa hS _ _ g1;have k2:=Zaa hS _ _ g2;have k3:=Zaa hS _ _ g3;have k4:=Zaa hS _ _ g4;have k5:=Zaa hS _ _ x0;have k6:=Zaa hS _ _ y0;go_simp;exact rfl),?_⟩)|refine Zq ?_);simp only[sx])
 refine Zah ?_;go_wp2;go_ret;exact ⟨rfl,hblW.trans (hb10.mono hzW)⟩
theorem topTwice_open {H:Type} {enc:TypeId×Value→H} (W:World) (hT:Tabs W.cell?) {base:Nat} {v v1 v2 v3 v4:Value} {d d1 d2 d3 d4:DataW H} {p p1 p2 p3 p4:List MemPlace} (hval:Value.okWide Tryz.prog W .any base 22 v) (h:DataW.Trod enc Tryz.prog W 0 (fun _=>true) true 22 v d p)
 (hw:∀n∈DataW.weights Tryz.prog 22 d,n≤reachBytes) (hval1:Value.okWide Tryz.prog W .any base 3 v1) (h1:DataW.Trod enc Tryz.prog W 0 (fun _=>true) true 3 v1 d1 p1)
 (hw1:∀n∈DataW.weights Tryz.prog 3 d1,n≤reachBytes) (hval2:Value.okWide Tryz.prog W .any base 3 v2) (h2:DataW.Trod enc Tryz.prog W 0 (fun _=>true) true 3 v2 d2 p2)
 (hw2:∀n∈DataW.weights Tryz.prog 3 d2,n≤reachBytes) (hval3:Value.okWide Tryz.prog W .any base 3 v3) (h3:DataW.Trod enc Tryz.prog W 0 (fun _=>true) true 3 v3 d3 p3)
 (hw3:∀n∈DataW.weights Tryz.prog 3 d3,n≤reachBytes) (hval4:Value.okWide Tryz.prog W .any base 3 v4) (h4:DataW.Trod enc Tryz.prog W 0 (fun _=>true) true 3 v4 d4 p4)
 (hw4:∀n∈DataW.weights Tryz.prog 3 d4,n≤reachBytes):Calls Tryz.prog 7 #[v,v1,v2,v3,v4] W fun e w'=>e=.returned (.bool true)∧Below W.heap.size W w':=by
 obtain ⟨l,hl,hg⟩:=Zsz hval h hw;obtain ⟨n,rfl,hn⟩:=Zrm hval1 h1 hw1;obtain ⟨m,rfl,hm⟩:=Zrm hval2 h2 hw2;obtain ⟨x,rfl,hx⟩:=Zrm hval3 h3 hw3;obtain ⟨y,rfl,hy⟩:=Zrm hval4 h4 hw4;exact topTwice_any _ l n m x y _ hl hg hn hm hx hy hT
end Fl
open Fl in
theorem topTwice_lifted (os:Os) (started:os.Started) (H:Type) (enc:TypeId×Value→H) :
 ReturnsInHanded {} Tryz.checked os 7 .any (fun w args=>(Rows.topTwiceSpec.pre enc Tryz.prog Tryz.f7 [] false w args∧laidMetH Tryz.prog Zvd w)∧sizedMet enc Tryz.prog Tryz.f7 (OpenSpec.ofChange Rows.topTwiceSpec) false w args) (Rows.topTwiceSpec.post enc Tryz.prog Tryz.f7 false true false false):=by
 refine returnsInHanded_of_change_and (C:=Tryz.checked) (X:=fun w _=>laidMetH Tryz.prog Zvd w) (fun _ _ _ hh h=>h.of_heap hh) own_ started (by kernel_rfl) Tryz.func7
  (ChangeSpec.witness_shaped (enc:=enc) (C:=Tryz.checked) (os:=os) (X:=fun w _=>laidMetH Tryz.prog Zvd w) false (World.doorLaid Tryz.prog 400 os) #[.slice none 0 0,.int .i64 0,.int .i64 0,.int .i64 0,.int .i64 0] 8 rfl (World.shaped_of_RefB (by kernel_rfl) (by kernel_rfl)) (by kernel_rfl) (by kernel_rfl) (by kernel_rfl) (Zx4 os _)) ?_
 intro W base args ds gs before hval0 hW _ hsz hL _;have hval:∀(j:Nat) t v,Tryz.f7.params[j]?=some t→args[j]?=some v→Value.okWide Tryz.prog W .any base t v:=hval0;have hW':=hW;obtain ⟨p,q,hA,hV,rfl,hfz,hnd⟩:=hW;obtain ⟨rfl,rfl⟩:=trodVars_none hV;have hA:DataW.TrodAll enc Tryz.prog W 0 (fun _=>true) true Tryz.f7.params.toList args.toList ds p:=hA;rw[Tryz.params7] at hA hval hsz;obtain ⟨v0,v1,v2,v3,v4,d0,d1,d2,d3,d4,p0,p1,p2,p3,p4,rfl,rfl,rfl,h0,h1,h2,h3,h4⟩:=trodAll_five hA;have hs0:∀n∈DataW.weights Tryz.prog _ d0,n≤reachBytes:=fun n hn=>by simpa using List.all_eq_true.1 hsz n (DataW.weights_mem_each (j:=0) rfl rfl n hn)
 have hs1:∀n∈DataW.weights Tryz.prog _ d1,n≤reachBytes:=fun n hn=>by simpa using List.all_eq_true.1 hsz n (DataW.weights_mem_each (j:=1) rfl rfl n hn)
 have hs2:∀n∈DataW.weights Tryz.prog _ d2,n≤reachBytes:=fun n hn=>by simpa using List.all_eq_true.1 hsz n (DataW.weights_mem_each (j:=2) rfl rfl n hn)
 have hs3:∀n∈DataW.weights Tryz.prog _ d3,n≤reachBytes:=fun n hn=>by simpa using List.all_eq_true.1 hsz n (DataW.weights_mem_each (j:=3) rfl rfl n hn)
 have hs4:∀n∈DataW.weights Tryz.prog _ d4,n≤reachBytes:=fun n hn=>by simpa using List.all_eq_true.1 hsz n (DataW.weights_mem_each (j:=4) rfl rfl n hn)
 refine (topTwice_open W (Zzg hL) (hval 0 _ _ rfl rfl) h0 hs0 (hval 1 _ _ rfl rfl) h1 hs1 (hval 2 _ _ rfl rfl) h2 hs2 (hval 3 _ _ rfl rfl) h3 hs3 (hval 4 _ _ rfl rfl) h4 hs4).mono fun e W' ⟨he,hb⟩=>?_
 exact Zva Zzk (b:=4) rfl Tryz.underlying4 rfl (Zur _ (by kernel_rfl)) rfl hW' he hb
theorem topTwice_holds:Rows.TopTwiceSaid :=
 OpenClaim.holds_of_wide 7 Tryz.f7 rfl rfl rfl rfl rfl rfl rfl ⟨rfl,rfl,rfl,rfl,rfl⟩ rfl rfl rfl rfl rfl (by kernel_rfl) Tryz.func7 (by kernel_rfl)
  (of_decide_eq_true (by kernel_rfl)) (by unfold Func.isWrapper;first|(rw[if_pos (by decide +kernel)];kernel_rfl)|(rw[if_neg (by decide +kernel)];exact ⟨rfl,rfl⟩))
  (fun os started H enc _=>topTwice_lifted os started H enc)
theorem topTwice_card:Rows.TopTwiceCardSaid :=
 Claim7.holds_tied_plain_at .later [] [.widerDeep,.data,.data] true Rows.topTwiceCard.stood.harness false
  topTwice_holds (fun _ h=>by cases h) (by kernel_rfl) (fun _ h=>by cases h) topTwice_row_tie rfl ⟨rfl,rfl⟩ (by kernel_rfl) rfl
  (fun f fn hf hfn=>by
   obtain rfl : f = 7 := Option.some.inj ((show Tryz.prog.funcNamed "sheaves/sheavestop.TopTwice" = some 7 by kernel_rfl).symm.trans hf) |>.symm
   obtain rfl:fn=Tryz.f7:=(Option.some.inj (Tryz.func7.symm.trans hfn)).symm
   exact ⟨by kernel_rfl,fun j t ht=>by
    have hall:(Tryz.f7.params.toList.all fun u=> !Tryz.prog.wantsStandIn u)=true:=by kernel_rfl
    have:=List.all_eq_true.1 hall t (by simpa using Array.mem_of_getElem? ht)
    exact (show Tryz.prog.wantsStandIn t=false by simpa using this)⟩)
  (by kernel_rfl)
end Go.Proofs.YtinibgklgehdpaaGreatDoor
