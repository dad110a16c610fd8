/- A part of what the last text stands on. -/
import Derived.Shelf.SlSortCmp.WholeK
import Derived.Shelf.SlSortCmp.NoneTotal
import Derived.Test.YtinibgklgehdpaaGreatDoorK08
import Derived.Test.YtinibgklgehdpaaGreatDoorK09
import Derived.Test.YtinibgklgehdpaaGreatDoorK15
import Derived.Test.YtinibgklgehdpaaGreatDoorK23
import Derived.Test.YtinibgklgehdpaaGreatDoorK24
namespace Go.Proofs.YtinibgklgehdpaaGreatDoor
open Go.ChangeShapes Go.WideShapes Go.ChangeAt Go.RowKit Qa Qb Qc
set_option linter.all false
set_option maxHeartbeats 20000000
set_option maxRecDepth 100000
variable{v:Value}{h:View}{k j sz bs:Nat}{n:Fl.Nd}{α:Type}{xs:List α}{R:View→List Value→α→Prop}{l:List Crt}
structure CV where
 x:Crt
 lo:0≤x.hdr.author
 hi:x.hdr.author≤3
 b:Option Addr
 bc:Nat
 p:Option Addr
 pc:Nat
 v:Option Addr
 vc:Nat
instance:Inhabited CV:=⟨⟨⟨⟨0,0,[],[]⟩,[]⟩,by decide,by decide,none,0,none,0,none,0⟩⟩
def encC(y:CV):List Value:=[.int .i64 y.x.hdr.author,.int .i64 y.x.hdr.round,.slice y.b y.x.hdr.batches.length y.bc,.slice y.p y.x.hdr.parents.length y.pc,.slice y.v y.x.voters.length y.vc]
theorem Zj2(l:List Value)(h:j<l.length):l[j]?=some l[j]! :=by
 rw[List.getElem?_eq_getElem h,getElem!_pos l j h]
def cfC(a b:CV):Int:=a.x.hdr.author-b.x.hdr.author
theorem ltC(a b:CV):ltOf cfC a b=decide (a.x.hdr.author<b.x.hdr.author):=by
 unfold ltOf cfC
 by_cases h:a.x.hdr.author<b.x.hdr.author
 ·simp[h];omega
 ·simp[h];omega
theorem swoC:Sort.SWO (ltOf cfC) where
 irrefl x:=by rw[ltC];simp
 trans x y z h1 h2:=by rw[ltC]at *;simp at *;omega
 ntrans x y z h1 h2:=by rw[ltC]at *;simp at *;omega
theorem Zu2(x y:CV)(W:World):Calls Tryz.prog 61 #[.agg (encC x).toArray,.agg (encC y).toArray] W fun e w'=>e=.returned (.int .i64 (cfC x y))∧∃q os',w'=Sort.grow (W.drewN q) os':=by
 obtain⟨x,xlo,xhi,b1,bc1,p1,pc1,v1,vc1⟩:=x;obtain⟨y,ylo,yhi,b2,bc2,p2,pc2,v2,vc2⟩:=y;simp only[encC,cfC];generalize x.hdr.author=a at *;generalize y.hdr.author=b at *
 go_enter Tryz.func61,Tryz.ntmps61
 go_wp2;go_ret;exact⟨rfl,0,_,by rw[Sort.alloc_eq_grow,Sort.alloc_eq_grow,Sort.grow_grow];rfl⟩
theorem Zya(blk off size:Nat)(w:World):CmpLays Tryz.prog 61 #[] encC 5 cfC blk off size w:=fun _ _ _ _ x y=>Zu2 x y _
theorem Zf6[Inhabited α](enc:α→List Value)(k:Nat)(w:World)(blk off n:Nat)(d:Array α)(os:Array Obj)(hb:blk<w.heap.size):w.grownBy (sortWorldK enc k w blk off n d os) (some blk):=by
 refine⟨rfl,rfl,rfl,size_sortWorldK_c enc k w blk off n d os,fun i hi hne=>?_⟩;unfold sortWorldK;rw[Sort.heap_grow_old _ _ (by rw[Sort.size_putRowK];exact hi)];show((Sort.ahead w n).heap.modify blk _)[i]?=_;rw[Array.getElem?_modify,if_neg (fun e=>hne (by rw[e]))];rfl
theorem noneC(h:View):RCrts h (.slice none 0 0) []:=⟨none,0,rfl,Nat.le_refl _,Nat.zero_le _,by simp,fun _=>rfl,fun h=>by simp at h⟩
theorem Zop{w0:World}(v:Value)(xs:List Crt)(W:World)(b:Nat)(hown:OwnSl 5 (fun _ cs x=>RCrt w0.cell? cs x) 64 W b v xs)(hA:Auth xs)(hl:xs.length≤400)(hb0:Below w0.heap.size w0 W)(hbb:w0.heap.size≤b) :
 Calls Tryz.prog 60 #[v,.func (.func 61) #[] #[]] W fun e w'=>e=.returned (.tuple #[])∧Below w0.heap.size w0 w'∧∃ys,ys.Perm xs∧(ys.Pairwise fun x y=>x.hdr.author≤y.hdr.author)∧RCrts w'.cell? v ys:=by
 have hr:=hown.reads (bs:=88) (fun _ _ _ _ h _=>h) (by omega);obtain⟨css,h1,_,_⟩:=hown.own
 rcases h1.2 with ⟨rfl,hn⟩|⟨g,cap,cur,rfl,hbg,hc,hncap,hcap,hcs,_⟩
 ·have hx:xs=[]:=List.eq_nil_of_length_eq_zero hn;subst hx;refine(AnyF.slices_SortFunc_none Zne none 0 _ W).mono ?_;rintro e w' ⟨rfl,rfl⟩;exact⟨rfl,hb0,[],List.Perm.refl _,List.Pairwise.nil,noneC _⟩
 ·obtain⟨A',c',e,_,_,hbd,_,hel⟩:=hr;injection e with e1 e2 e3;subst e1 e3
  have hex:∀i (hi:i<xs.length),∃y:CV,y.x=xs[i]∧RCrt w0.cell? (encC y) y.x∧∀j,j<5→W.cell? ⟨g,0+i*5+j,none⟩=(encC y)[j]?:=fun i hi=>by
   obtain⟨b',o',ea,hcc⟩:=hel (by omega);injection ea with ea;injection ea with eb eo _;subst eb eo;obtain⟨cs,_,hcell,vb,vp,vv,rfl,r1,r2,r3⟩:=hcc i hi;obtain⟨bA,bc,rfl,_⟩:=id r1;obtain⟨pA,pc,rfl,_⟩:=id r2;obtain⟨vA,vc,rfl,_⟩:=id r3;have ha:=hA _ (List.getElem_mem hi);exact⟨⟨xs[i],ha.1,ha.2,bA,bc,pA,pc,vA,vc⟩,rfl,⟨_,_,_,rfl,r1,r2,r3⟩,hcell⟩
  obtain⟨d,hds,hd⟩:∃d:Array CV,∃hs:d.size=xs.length,∀i (hi:i<xs.length),(d[i]'(by omega)).x=xs[i]∧RCrt w0.cell? (encC (d[i]'(by omega))) (d[i]'(by omega)).x∧∀j,j<5→W.cell? ⟨g,0+i*5+j,none⟩=(encC (d[i]'(by omega)))[j]? :=
   ⟨Array.ofFn (fun i:Fin xs.length=>Classical.choose (hex i i.2)),by simp,fun i hi=>by simpa using Classical.choose_spec (hex i hi)⟩
  have hH:Sort.HoldsK encC 5 W g 0 d:=fun t ht=>by
   rw[Sort.size_flatK]at ht;have h5:t/5<xs.length:=by omega
   have hq:=(hd (t/5) h5).2.2 (t%5) (by omega);rw[show 0+t/5*5+t%5=0+t by omega]at hq;rw[Sort.get_flatK _ _ _ _ ht];refine⟨?_,?_⟩
   ·rw[hq,getElem!_pos d (t/5) (by omega)];exact Zj2 _ (show t%5<5 by omega)
   ·exact Blk.frozen (show Blk W g 64 cur from hc) _
  have hmap:d.toList.map (·.x)=xs:=by
   apply List.ext_getElem
   ·simp[hds]
   ·intro i h1 h2;simp only[List.getElem_map,Array.getElem_toList];exact(hd i h2).1
  have eg:∀args w,(callFunc 61 args).run Tryz.prog w=.ok (.enter 61 args) w:=enters_of Tryz.func61 (by kernel_rfl) rfl
  have hcon:=AnyQ.slices_SortFunc Zne 5 (fun w=>by kernel_rfl) (fun w=>by kernel_rfl) encC (fun _=>rfl) (fun x v hv=>by simp[encC]at hv;rcases hv with rfl|rfl|rfl|rfl|rfl<;>rfl) cfC swoC 61 #[] g 0 cap d W eg (Zya g 0 d.size W) hH (by exact(Array.getElem?_eq_some_iff.1 hc).1) (by omega)
  rw[hds]at hcon;refine hcon.mono ?_;rintro e w' ⟨rfl,d',n,os,hp,hs,rfl⟩;have hlt:g<W.heap.size:=(Array.getElem?_eq_some_iff.1 hc).1;have hg:=Zf6 encC 5 W g 0 n d' os hlt;have hbl:Below w0.heap.size w0 (sortWorldK encC 5 W g 0 n d' os):=Zab hb0 hb0.size hg (by intro k e;injection e with e;omega);have hds':d'.size=xs.length:=hp.1.trans hds
  have hperm:d'.toList.Perm d.toList:=by
   have h2:=hp.2.2;rw[←hds]at h2;simp at h2;rw[List.take_of_length_le (by simp[hp.1])]at h2;exact h2
  have hH':=holdsK_sortWorldK_c encC 5 W g 0 d d' n os hH hlt hp.1;refine⟨rfl,hbl,d'.toList.map (·.x),by rw[←hmap];exact hperm.map _,?_,?_⟩
  ·rw[List.pairwise_map,List.pairwise_iff_getElem];intro i j hi hj hij;simp at hi hj;have:=hs i j (Nat.zero_le _) hij (by omega);rw[ltC,getElem!_pos d' i (by omega),getElem!_pos d' j (by omega)]at this;simp at this⊢;omega
  ·have hlen:(d'.toList.map (·.x)).length=xs.length:=by simp[hds']
   refine⟨some ⟨g,0,none⟩,cap,by rw[hlen],by rw[hlen];exact hncap,hcap,by rw[hlen];exact hbd,(fun h=>by cases h),fun h0=>⟨g,0,rfl,fun i hi=>?_⟩⟩;rw[hlen]at hi;refine⟨encC (d'[i]'(by omega)),rfl,fun j hj=>?_,?_⟩
   ·have:=(hH'.cell (i:=i) (c:=j) (by omega) hj).1;rw[getElem!_pos d' i (by omega)]at this;rw[Zj2 (encC (d'[i]'(by omega))) hj];exact this
   ·have hmem:(d'[i]'(by omega))∈d.toList:=hperm.mem_iff.1 (by simp);obtain⟨k,hk,hk2⟩:=List.getElem_of_mem hmem;have hq:=(hd k (by simpa[hds]using hk)).2.1;simp only[Array.getElem_toList]at hk2;rw[hk2]at hq;simp only[List.getElem_map,Array.getElem_toList];exact RCrt.mono _ _ _ _ hq (Zaa hbl)
namespace Fl
def cfW(a b:DW):Int:=if a.x.hdr.round≠b.x.hdr.round then a.x.hdr.round-b.x.hdr.round else a.x.hdr.author-b.x.hdr.author
theorem ltW(a b:DW):ltOf cfW a b=decide (a.x.hdr.round<b.x.hdr.round∨(a.x.hdr.round=b.x.hdr.round∧a.x.hdr.author<b.x.hdr.author)):=by
 unfold ltOf cfW;rw[Bool.eq_iff_iff]
 split<;>simp<;>omega
theorem swoW:Sort.SWO (ltOf cfW) where
 irrefl x:=by rw[ltW];simp
 trans x y z h1 h2:=by rw[ltW]at *;simp at *;omega
 ntrans x y z h1 h2:=by rw[ltW]at *;simp at *;omega
theorem Zot(x y:DW)(W:World):Calls Tryz.prog 154 #[.agg (encW x).toArray,.agg (encW y).toArray] W fun e w'=>e=.returned (.int .i64 (cfW x y))∧∃q os',w'=Sort.grow (W.drewN q) os':=by
 obtain⟨x,⟨⟨x1,x2⟩,x3,x4⟩,b1,bc1,p1,pc1,v1,vc1⟩:=x;obtain⟨y,⟨⟨y1,y2⟩,y3,y4⟩,b2,bc2,p2,pc2,v2,vc2⟩:=y;simp only[encW,cfW];generalize x.hdr.author=a at *;generalize y.hdr.author=b at *;generalize x.hdr.round=c at *;generalize y.hdr.round=d at *
 by_cases h:c=d
 ·have hb:(c != d)=false:=by simpa using h
  rw[if_neg (by simpa using h)];clear h
  go_enter Tryz.func154,Tryz.ntmps154
  go_wp2;go_ret;exact⟨rfl,0,_,by rw[Sort.alloc_eq_grow,Sort.alloc_eq_grow,Sort.grow_grow];rfl⟩
 ·have hb:(c != d)=true:=by simpa using h
  rw[if_pos h];clear h
  go_enter Tryz.func154,Tryz.ntmps154
  go_wp2;go_ret;exact⟨rfl,0,_,by rw[Sort.alloc_eq_grow,Sort.alloc_eq_grow,Sort.grow_grow];rfl⟩
theorem Zx9(blk off size:Nat)(w:World):CmpLays Tryz.prog 154 #[] encW 5 cfW blk off size w:=fun _ _ _ _ x y=>Zot x y _
def RCon(h:View):View→List Value→Crt→Prop:=fun _ cs x=>RCrt h cs x
structure SortP (h:View) (B:Nat) (w0 w':World) (v:Value) (ys:List DW):Prop where
 below:Below w0.heap.size w0 w'
 row:∃zs:List DW,zs.Perm ys∧(zs.Pairwise fun x y=>leC x.x y.x=true)∧RSl 5 (RCon h) 88 (View.from w'.cell? B) v (zs.map (·.x))
theorem Zuf(h:View)(v:Value)(ys:List DW)(w0 W:World)(B:Nat)(hrow:RowW W B v ys)(hread:∀y∈ys,RCrt h (encW y) y.x)(hb0:Below w0.heap.size w0 W)(h4:ys.length≤400)(hbb:w0.heap.size≤B) :
 Calls Tryz.prog 60 #[v,.func (.func 154) #[] #[]] W fun e w'=>e=.returned (.tuple #[])∧SortP h B w0 w' v ys:=by
 rcases hrow.2 with ⟨rfl,hn⟩|⟨g,cap,cur,rfl,hbg,hc,hncap,hcap,hcs,htake⟩
 ·have hx:ys=[]:=List.eq_nil_of_length_eq_zero hn;subst hx;refine(AnyF.slices_SortFunc_none Zne none 0 _ W).mono ?_;rintro e w' ⟨rfl,rfl⟩;exact⟨rfl,hb0,[],List.Perm.refl _,List.Pairwise.nil,none,0,rfl,Nat.le_refl _,Nat.zero_le _,by simp,fun _=>rfl,fun h=>by simp at h⟩
 ·have hBk:Blk W g 64 cur:=hc
  have hH:Sort.HoldsK encW 5 W g 0 ys.toArray:=fun t ht=>by
   rw[Sort.size_flatK]at ht;have ht':t<ys.length*5:=by simpa using ht
   have h5:t/5<ys.length:=by omega
   have hq:cur[t]?=(encW ys[t/5])[t%5]?:=by
    rw[Zrv htake ht'];have:=Zj3 h5 (Nat.mod_lt t (show 0<5 by decide));rw[←this]
    congr 1
    omega
   rw[Sort.get_flatK _ _ _ _ ht];refine⟨?_,?_⟩
   ·rw[hBk.cell,Nat.zero_add,hq,getElem!_pos ys.toArray (t/5) (by simpa using h5)];exact Zj2 _ (show t%5<5 by omega)
   ·exact hBk.frozen _
  have eg:∀args w,(callFunc 154 args).run Tryz.prog w=.ok (.enter 154 args) w:=enters_of Tryz.func154 (by kernel_rfl) rfl
  have hcon:=AnyQ.slices_SortFunc Zne 5 (fun w=>by kernel_rfl) (fun w=>by kernel_rfl) encW (fun _=>rfl) (fun x v hv=>by simp[encW]at hv;rcases hv with rfl|rfl|rfl|rfl|rfl<;>rfl) cfW swoW 154 #[] g 0 cap ys.toArray W eg (Zx9 g 0 ys.toArray.size W) hH (by exact(Array.getElem?_eq_some_iff.1 hc).1) (by simp;omega)
  rw[show ys.toArray.size=ys.length by simp]at hcon;refine hcon.mono ?_;rintro e w' ⟨rfl,d',n,os,hp,hs,rfl⟩;have hlt:g<W.heap.size:=(Array.getElem?_eq_some_iff.1 hc).1;have hg:=Zf6 encW 5 W g 0 n d' os hlt;have hbl:Below w0.heap.size w0 (sortWorldK encW 5 W g 0 n d' os):=Zab hb0 hb0.size hg (by intro k e;injection e with e;omega);have hds':d'.size=ys.length:=by simpa using hp.1
  have hperm:d'.toList.Perm ys:=by
   have h2:=hp.2.2;simp at h2;rw[List.take_of_length_le (by simp[hds'])]at h2;exact h2
  have hH':=holdsK_sortWorldK_c encW 5 W g 0 ys.toArray d' n os hH hlt (by simpa using hp.1);refine⟨rfl,hbl,d'.toList,hperm,?_,?_⟩
  ·rw[List.pairwise_iff_getElem];intro i j hi hj hij;simp at hi hj;have:=hs i j (Nat.zero_le _) hij (by omega);rw[ltW,getElem!_pos d' i (by omega),getElem!_pos d' j (by omega)]at this;simp only[Array.getElem_toList];unfold leC;simp at this
   split<;>simp<;>omega
  ·have hlen:(d'.toList.map (·.x)).length=ys.length:=by simp[hds']
   refine⟨some ⟨g,0,none⟩,cap,by rw[hlen],by rw[hlen];exact hncap,hcap,by rw[hlen];omega,(fun h=>by cases h),fun h0=>⟨g,0,rfl,fun i hi=>?_⟩⟩;rw[hlen]at hi;refine⟨encW (d'[i]'(by omega)),rfl,fun j hj=>?_,?_⟩
   ·have:=(hH'.cell (i:=i) (c:=j) (by omega) hj).1;rw[getElem!_pos d' i (by omega)]at this;rw[Zj2 (encW (d'[i]'(by omega))) hj];unfold View.from;rw[if_neg (by simp only;omega)];exact this
   ·have hmem:(d'[i]'(by omega))∈ys:=hperm.mem_iff.1 (by simp);have hq:=hread _ hmem;simp only[List.getElem_map,Array.getElem_toList];exact hq
theorem Zu6(a b c:Crt)(h1:leC a b=true)(h2:leC b c=true):leC a c=true:=by
 unfold leC at *
 split at h1<;>split at h2<;>split<;>simp at * <;>omega
theorem Zu7(a b:Crt):(leC a b||leC b a)=true:=by
 unfold leC
 split<;>split<;>simp at * <;>omega
end Fl
theorem Zn0(h:dagF hD cF l=0):Lone l∧Auth l∧l.length≤400∧(∀c∈l,hF c.hdr=0):=by
 obtain⟨h1,h2,h3⟩:=dagF_zero h;refine⟨Zv6 h3,fun c hc=>?_,h1,(Zic h).2⟩;have hh:=(Zic h).2 c hc;unfold hF Zb3 at hh;split at hh
 ·rename_i h1;simp[inB]at h1;omega
 ·cases hh
def RAt(w0:World):View→List Value→Crt→Prop:=fun _ cs x=>RCrt w0.cell? cs x
theorem RAt.mono(w0:World):Mono (RAt w0):=fun _ _ _ _ h _=>h
theorem Zpa(l:List Crt)(r:Int)(hk:k<l.length):Zbr (l.take (k+1)) r=Zbr (l.take k) r++(if l[k].hdr.round==r then [l[k]]else []):=by
 unfold Zbr;rw[List.take_succ_eq_append_getElem hk,List.filter_append]
 congr 1
 by_cases h:l[k].hdr.round==r<;>simp[List.filter,h]
theorem Zph(v:Value)(l:List Crt)(r:Int)(w:World)(hl:RCrts w.cell? v l)(hL:Lone l)(hA:Auth l)(h4:l.length≤400) :
 Calls Tryz.prog 32 #[v,.int .i64 r] w fun e w'=>∃v',e=.returned v'∧Below w.heap.size w w'∧RCrts w'.cell? v' (Zbu l r):=by
 obtain⟨A,c,rfl,hform⟩:=id hl;clear hform;obtain⟨_,hn1,hn2,hel⟩:=RCrts.at hl;have Hel:=Lib.hid hel;have H4:=Lib.hid h4;have HLA:=Lib.hid (And.intro hL hA);clear hel hl h4 hL hA
 go_enter Tryz.func32,Tryz.ntmps32
 go_wp2_with fail
 go_loopw [5,7,10] (fun v _ i wr=>∃k:Nat,k≤l.length∧i=.int .i64 k∧OwnSl 5 (RAt w) 64 wr w.heap.size v (Zbr (l.take k) r)∧Below w.heap.size w wr) (fun _ _ i _=>l.length-(intOf i).toNat)
 case atStart=>exact⟨0,Nat.zero_le _,rfl,OwnSl.nil _ _ _ _ _,Below.refl _ _⟩
 case round =>
  obtain⟨k,hk,rfl,hown,hbl⟩:=hrel;have hbs:=hbl.size
  by_cases hlt:k<l.length
  ·obtain⟨b0,o0,ub,up,uv,rfl,q0,q1,q2,q3,q4,rb,rp,rv⟩:=Hel.out k hlt;have c0:=Zaa hbl _ _ q0;have c1:=Zaa hbl _ _ q1;have c2:=Zaa hbl _ _ q2;have c3:=Zaa hbl _ _ q3;have c4:=Zaa hbl _ _ q4;have Hn:=Lib.hid (Zpa l r hlt);have Hlk:=Lib.hid (show(Zbr (l.take k) r).length≤k by unfold Zbr;have:=List.length_filter_le (fun c:Crt=>c.hdr.round==r) (l.take k);simp at this ⊢;omega);obtain⟨E1A,E1c,rfl,hg1⟩:=id rb;obtain⟨E2A,E2c,rfl,hg2⟩:=id rp;obtain⟨E3A,E3c,rfl,hg3⟩:=id rv;have hR:RAt w (View.but w.cell? none) [.int .i64 l[k].hdr.author,.int .i64 l[k].hdr.round,.slice E1A l[k].hdr.batches.length E1c,.slice E2A l[k].hdr.parents.length E2c,.slice E3A l[k].voters.length E3c] l[k]:=⟨_,_,_,rfl,rb,rp,rv⟩;clear q0 q1 q2 q3 q4 rb rp rv hg1 hg2 hg3;generalize Zbr (l.take k) r=L at hown Hn Hlk;generalize l[k]=y at *
   go_upto_region 5 with fail
   refine Zo fun W2 hX hsX hbX=>?_
   have hbX2:=hbl.trans (hbX.mono hbs);have hown2:=hown.kept (RAt.mono w) hbX;have x0:=hX.cell 0;have x1:=hX.cell 1;have x2:=hX.cell 2;have x3:=hX.cell 3;have x4:=hX.cell 4;simp at x0 x1 x2 x3 x4;clear hsX hown c0 c1 c2 c3 c4
   by_cases hr:y.hdr.round=r
   ·have Hn2:Hid (Zbr (l.take (k+1)) r=L++[y]):=by show _=_;rw[Hn.out];simp[hr]
    have HL:=Lib.hid (show L.length≤400 by have:=Hlk.out;have:=H4.out;omega);clear Hn;subst hr;obtain⟨nA,nc,rfl⟩:=hown2.form
    go_wp2_with (at_builtin;go_loud (refine Za2 (n:=140737488355328) (xs:=L) (R:=RAt w) (RAt.mono w) y [.int .i64 y.hdr.author,.int .i64 y.hdr.round,.slice E1A y.hdr.batches.length E1c,.slice E2A y.hdr.parents.length E2c,.slice E3A y.voters.length E3c] Zk7 _ _ rfl rfl rfl hown2 hbX2 hbX2.size rfl rfl rfl rfl hR (Nat.le_refl _) (by have:=HL.out;omega) (by have:=HL.out;omega) ?_))
    intro v' w2 ho hbl2 _;rw[←Hn2.out]at ho;clear hown2 x0 x1 x2 x3 x4;go_wp2;go_roundw
    case rel=>exact⟨k+1,by omega,by go_num,ho,hbl2⟩
    case measure=>simp[intOf];omega
   ·have Hn2:Hid (Zbr (l.take (k+1)) r=L):=by show _=_;rw[Hn.out];simp[hr]
    clear Hn;rw[←Hn2.out]at hown2;go_wp2;go_roundw
    case rel=>exact⟨k+1,by omega,by go_num,hown2,hbX2⟩
    case measure=>simp[intOf];omega
  ·have hkl:k=l.length:=by omega
   rw[hkl,List.take_length]at hown;have HA:Auth (Zbr l r):=fun c hc=>HLA.out.2 c (List.mem_filter.1 hc).1
   have Hl:(Zbr l r).length≤400:=by have:=List.length_filter_le (fun c:Crt=>c.hdr.round==r) l;have:=H4.out;unfold Zbr;omega
   clear Hel hkl;obtain⟨LR,hLR⟩:∃q,Hid (Zbr l r=q):=⟨_,rfl⟩;rw[hLR.out]at hown HA Hl;obtain⟨nA,nc,rfl⟩:=hown.form
   go_wp2_with fail
   refine(Zop _ LR _ w.heap.size hown HA Hl hbl (Nat.le_refl _)).mono ?_;rintro e w2 ⟨rfl,hb2,ys,hp,hs,hr⟩;have hys:ys=Zbu l r:=Zox HLA.out.1 HLA.out.2 (by rw[hLR.out];exact hp) hs;rw[hys]at hr;go_wp2;go_ret;exact⟨_,rfl,hb2,hr⟩
namespace Fl
theorem Zxi(ys:List DW)(r:Int):(ys.filter (Zdm r)).map (·.x)=(ys.map (·.x)).filter fun c=> !decide (c.hdr.round<r):=by
 induction ys with
 |nil=>rfl
 |cons y ys ih =>
  simp only[List.filter_cons,List.map_cons];unfold Zdm at *
  by_cases h:y.x.hdr.round<r<;>simp[h,ih]
theorem Zuh{r:Int}{zs ys:List DW}(hL:Lone n.dag)(hm:ys.map (·.x)=n.dag)(hp:zs.Perm (ys.filter (Zdm r)))(hs:zs.Pairwise fun x y=>leC x.x y.x=true):Zrd n r=(zs.map (·.x)).take 8:=by
 unfold Zrd
 congr 1
 have h1:(zs.map (·.x)).Perm (n.dag.filter fun c=> !decide (c.hdr.round<r)):=by
  rw[←hm,←Zxi];exact hp.map _
 unfold sortC;refine List.Perm.eq_of_pairwise (le:=fun a b=>leC a b=true) (fun a b ha hb h2 h3=>?_) (List.pairwise_mergeSort Zu6 Zu7 _) (List.pairwise_map.2 hs) ((List.mergeSort_perm _ _).trans h1.symm);have ha':a∈n.dag:=(List.mem_filter.1 ((List.mergeSort_perm _ _).mem_iff.1 ha)).1;have hb':b∈n.dag:=(List.mem_filter.1 (h1.mem_iff.1 hb)).1
 have hrr:a.hdr.round=b.hdr.round∧a.hdr.author=b.hdr.author:=by
  unfold leC at h2 h3
  split at h2<;>split at h3<;>simp at * <;>omega
 exact Zkx hL ha' hb' hrr.2 hrr.1
theorem Zwy{h':View}(hR:Mono R)(r:RSl sz R bs h v xs)(hv:VLe h h'):RSl sz R bs h' v xs:=r.mono hR hv
theorem RCon.mono(h:View):Mono (RCon h):=fun _ _ _ _ a _=>a
structure KeepN (n m:Nd):Prop where
 me:m.me=n.me
 digs:m.digs=n.digs
 bats:m.bats=n.bats
 out:m.out.length≤400
theorem KeepN.refl(h:n.out.length≤400):KeepN n n:=⟨rfl,rfl,rfl,h⟩
theorem KeepN.send{n m:Nd}(h:KeepN n m)(tw:Int)(x:Msg):KeepN n (send m tw x):=by
 unfold Fl.send;split
 ·exact⟨h.me,h.digs,h.bats,by simp;omega⟩
 ·exact h
theorem Zui(i tb g off:Nat)(n:Nd)(tw round:Int)(o:Own)(w:World)(hl:Lim o w)(hi:i<5)(hN:NodeAt o w i tb g off n)(hDag:dagF hD cF n.dag=0)(h4:n.out.length≤400)(h8:n.digs.length≤800)(hbd:n.digs.length≤n.bats.length)(h9:n.bats.length≤800) :
 Calls Tryz.prog 113 #[.pointer (some ⟨g,off,none⟩),.int .i64 tw,.int .i64 round] w fun e w'=>e=.returned (.tuple #[])∧∃o',NFr i tb g off o w o' w'∧NodeAt o' w' i tb g off (serve n tw round):=by
 obtain⟨QR,hQR⟩:∃q,Hid (serve n tw round=q):=⟨_,rfl⟩;rw[hQR.out];have H4:=Lib.hid h4;have H8:=Lib.hid h8;have HB:=Lib.hid hbd;have H9:=Lib.hid h9;clear h4 h8 hbd h9;obtain⟨hLone,hAuth,hd4,hdv⟩:=Zn0 hDag;have hok:Hid (∀c∈n.dag,OkW c):=fun c hc=>okW (hdv c hc)
 have HLone:=Lib.hid hLone;have Hd4:=Lib.hid hd4;clear hLone hAuth hd4 hdv hDag
 go_enter Tryz.func113,Tryz.ntmps113
 go_upto_region 1 with fail
 refine Zo fun W hk hsz hb=>?_
 have v1:=Zae hl hb;have l1:=Zam hl hb;have N1:=hN.below hl hb;have F1:NFr i tb g off o w o W:=(NFr.refl hl).below hb;obtain⟨hmk,⟨vtx,vba,vdi,vta,vda,vow,vmi,vvo,vtp,vou⟩,S1,R1⟩:=id N1;have s0:=S1.nd0;have s7:=S1.nd7;simp only at s7;have hwW:w.heap.size<W.heap.size:=by omega
 have hg0:=hk.cell 0;simp at hg0;clear hsz
 by_cases htw:tw=n.me
 ·have htb:(tw==n.me)=true:=by simpa using htw
  have Nr:NodeAt o W i tb g off QR:=by
   have:QR=n:=by rw[←hQR.out];unfold serve;rw[if_pos htw]
   rw[this];exact N1
  clear htw;go_wp2
  (try simp only[Exit.inBlock,Exit.then])
  refine bodyPost_ret (results_none rfl _ _ _) rfl ?_;exact⟨rfl,o,F1,Nr⟩
 have htb:(tw==n.me)=false:=by simpa using htw
 have HQ:Hid (QR=(Zrd n round).foldl (Zg7 tw) n):=by show _=_;rw[←hQR.out];unfold serve;rw[if_neg htw]
 clear htw;have rda:RCrts (Zas o W) vda n.dag:=R1.da;obtain⟨daA,dac,hda,_⟩:=id rda;have hda:vda=.slice daA n.dag.length dac:=hda;subst hda
 go_wp2_with fail
 refine(Ztl (Zas o W) _ n.dag W (Zag _ _) rda hok.out).mono ?_;rintro e w2 ⟨v2,rfl,hb2,ys,hrow2,hmap2,hread2⟩;have hyl:ys.length≤400:=by have:=Hd4.out;rw[←hmap2,List.length_map]at this;exact this
 have Hmap:=Lib.hid hmap2;have Hread:=Lib.hid hread2;have hz2:=hb2.size;have hc2:=Zaa hb2 _ _ hg0;clear hmap2 hread2 rda
 go_wp2_with fail
 refine(Zqw v2 ys W w2 W.heap.size w.heap.size round hrow2 (fun y hy=>RCrt.mono _ _ _ _ (Hread.out y hy) (Zag _ _)) hb2 hc2 hwW hz2 hyl (Nat.le_refl _)).mono ?_;rintro e w3 ⟨v3,rfl,hb3,hrow3⟩;have hb23:=hb2.trans hb3;have hfl:(ys.filter (Zdm round)).length≤400:=Nat.le_trans (List.length_filter_le _ _) hyl;clear hrow2 hc2
 go_wp2_with fail
 refine(Zuf (Zas o W) v3 (ys.filter (Zdm round)) W w3 W.heap.size hrow3 (fun y hy=>Hread.out y (List.mem_filter.1 hy).1) hb23 hfl (Nat.le_refl _)).mono ?_;rintro e w4 ⟨rfl,hb4,zs,hperm,hpw,hr4⟩;have hsv:=Lib.hid (Zuh HLone.out Hmap.out hperm hpw);have hzl:zs.length≤400:=by rw[hperm.length_eq];exact hfl
 clear hrow3 hperm hpw hfl hb23 hb2 hb3 hz2 hyl Hmap Hread;have v4:=Zae l1 hb4;have l4:=Zam l1 hb4;have N4:=N1.below l1 hb4;have F4:=F1.below hb4
 have hr4:RSl 5 (RCon (Zas o w4)) 88 (Zas o w4) v3 (zs.map (·.x)):=by
  have h1:=Zwy (RCon.mono _) hr4 (Zby l1);exact RSl.weak (R':=RCon (Zas o w4)) (fun h cs x hx=>RCrt.mono _ _ _ _ hx v4) h1
 obtain⟨L,hLz⟩:∃L,Hid (zs.map (·.x)=L):=⟨_,rfl⟩;rw[hLz.out]at hr4 hsv;have hLl:L.length≤400:=by rw[←hLz.out,List.length_map];exact hzl
 clear hLz hzl;obtain⟨A,c,rfl,hform⟩:=id hr4;obtain⟨q1,q2,q3,q4⟩:=hform;have Hq4:=Lib.hid q4;clear q3 q4 S1 R1 N1 F1 s0 s7 hg0 v1 htb;obtain⟨M,hM⟩:∃M,Hid ((L.take 8).length=M):=⟨_,rfl⟩
 have hM8:M≤8∧M≤L.length∧(M=8∨M=L.length):=by
  have:=hM.out;simp at this;omega
 have hmin:min (L.length:Int) 8=(M:Int):=by omega
 have hmax:max (M:Int) 0=(M:Int):=by omega
 have HM:=Lib.hid hM8;have hMc:M≤c:=by omega
 have hMc':(M:Int)≤(c:Int):=by omega
 have hM0:(0:Int)≤(M:Int):=by omega
 clear hM8
 go_wp2_with fail
 go_loopw [8,10,11,35,43] (fun _ _ _ j _ wr=>∃(k:Nat) (o':Own) (m:Nd),k≤M∧j=.int .i64 k∧Hid (m=(L.take k).foldl (Zg7 tw) n)∧NFr i tb g off o w4 o' wr∧NodeAt o' wr i tb g off m∧KeepN n m) (fun _ _ _ j _ _=>M-(intOf j).toNat)
 case atStart=>exact⟨0,o,n,Nat.zero_le _,rfl,rfl,NFr.refl l4,N4,KeepN.refl H4.out⟩
 case round =>
  obtain⟨k,o1,m,hk1,rfl,hm,F1,N1,K1⟩:=hrel;have hzr:=F1.fr.size
  by_cases hlt:k<M
  ·have hltI:(k:Int)<(M:Int):=by omega
   have hkL:k<L.length:=by have:=HM.out;omega
   obtain⟨b0,o0,hA0,hcc⟩:=Hq4.out.2 (by omega);subst hA0;obtain⟨cs,-,hcell,hR⟩:=hcc k hkL;obtain⟨ub,up,uv,rfl,rb,rp,rv⟩:=hR;have vv:=F1.fr.view;have hv2:VLe (Zas o w4) wr.cell?:=vv.trans (Zag _ _);have c0:=hv2 _ _ (hcell 0 (by decide));have c1:=hv2 _ _ (hcell 1 (by decide));have c2:=hv2 _ _ (hcell 2 (by decide));have c3:=hv2 _ _ (hcell 3 (by decide));have c4:=hv2 _ _ (hcell 4 (by decide));simp at c0 c1 c2 c3 c4;have rb:=rb.mono RDig.mono vv;have rp:=rp.mono RDig.mono vv;have rv:=rv.mono vv;obtain⟨bA,bc,rfl,hfb⟩:=id rb;obtain⟨pA,pc,rfl,hfp⟩:=id rp;obtain⟨eA,ec,rfl,hfv⟩:=id rv
   have hstep:Hid ((L.take (k+1)).foldl (Zg7 tw) n=Zg7 tw ((L.take k).foldl (Zg7 tw) n) L[k]):=by
    show _=_;rw[List.take_succ_eq_append_getElem hkL,List.foldl_append];rfl
   clear hfb hfp hfv hcell hcc vv hv2;generalize L[k]=x at *;have l1':=F1.fr.lim
   go_upto_region 8 with fail
   refine Zo fun W2 hX hsX hbX=>?_
   have N2:=N1.below l1' hbX;have F2:=F1.below hbX;have l2:=Zam l1' hbX;have vX:=Zae l1' hbX;have hnX:o1 wr.heap.size=none:=l1'.none _ (Nat.le_refl _);have rbX:=rb.mono RDig.mono vX;have rpX:=rp.mono RDig.mono vX;have rvX:=rv.mono vX;have x2:=hX.cell 2;simp at x2;clear hsX N1 F1 l1' c0 c1 c2 c3 c4 vX rb rp rv
   go_wp2_with fail
   obtain⟨wo,hwo⟩:∃wo:World,wo=wr:=⟨_,rfl⟩;subst hwo;have hB24:x.hdr.batches.length*24≤140737488355328:=(RDigs.at rbX).2.2.1
   go_loopw [10,11,43] (fun _ _ j wr=>∃(q:Nat) (o':Own) (m':Nd),q≤x.hdr.batches.length∧j=.int .i64 q∧Hid (m'=(x.hdr.batches.take q).foldl (sendB tw) m)∧NFr i tb g off o w4 o' wr∧NodeAt o' wr i tb g off m'∧KeepN n m'∧Blk wr wo.heap.size 64 #[.int .i64 x.hdr.author,.int .i64 x.hdr.round,.slice bA x.hdr.batches.length bc,.slice pA x.hdr.parents.length pc,.slice eA x.voters.length ec]∧o' wo.heap.size=none∧VLe (Zas o1 W2) (Zas o' wr)) (fun _ _ j _=>x.hdr.batches.length-(intOf j).toNat)
   case atStart=>exact⟨0,o1,m,Nat.zero_le _,rfl,rfl,F2,N2,K1,hX,hnX,fun a v h=>h⟩
   case round =>
    clear N2 F2 l2 hX hnX x2;obtain⟨q,o2,m2,hq,rfl,hm2,F2,N2,K2,hX,hnX,hvw⟩:=hrel;have l2:=F2.fr.lim;have rbY:=rbX.mono RDig.mono hvw;have rpY:=rpX.mono RDig.mono hvw;have rvY:=rvX.mono hvw
    by_cases hqlt:q<x.hdr.batches.length
    ·have hqltI:(q:Int)<x.hdr.batches.length:=by omega
     obtain⟨-,-,-,hel⟩:=RDigs.at rbY;obtain⟨b3,o3,d3,hA3,t0,r0⟩:=hel q hqlt;subst hA3;have t0':=Zag _ _ _ _ t0;have hst:=Lib.hid (show(x.hdr.batches.take (q+1)).foldl (sendB tw) m=sendB tw ((x.hdr.batches.take q).foldl (sendB tw) m) x.hdr.batches[q] by rw[List.take_succ_eq_append_getElem hqlt,List.foldl_append];rfl);obtain⟨xA,xc,rfl,hfd⟩:=id r0;clear hfd hel t0;generalize x.hdr.batches[q]=D at *
     go_wp2_with fail
     refine(Zgt i tb g off m2 _ D o2 _ N2 (r0.mono (Zag _ _)) (by rw[K2.digs];exact H8.out)).mono ?_;rintro e w5 ⟨rfl,hb5⟩;have N5:=N2.below l2 hb5;have F5:=F2.below hb5;have l5:=Zam l2 hb5;have v5:=Zae l2 hb5;have hX5:=hX.kept hb5;have hvw5:=hvw.trans v5
     rcases Zfl (·==D) m2.digs with ⟨p1,-⟩|⟨a,ha,p1,-,-⟩
     ·rw[show held m2 D= -1 from p1]
      have hm3:Hid (m2=(x.hdr.batches.take (q+1)).foldl (sendB tw) m):=by
       show _=_;rw[hst.out,←hm2.out];unfold sendB;rw[show held m2 D= -1 from p1,if_neg (by omega)]
      clear p1 hst N2 F2 hX l2 rbY rpY rvY t0' r0;go_wp2;go_roundw
      case rel=>exact⟨q+1,o2,m2,by omega,by go_num,hm3,F5,N5,K2,hX5,hnX,hvw5⟩
      case measure=>simp[intOf]<;>omega
     ·rw[show held m2 D=(a:Int) from p1];have had:a<m2.digs.length:=ha;have hab:a<m2.bats.length:=by have:=HB.out;rw[K2.digs]at had;rw[K2.bats];omega
      have hm3:Hid ((x.hdr.batches.take (q+1)).foldl (sendB tw) m=send m2 tw (batM m2.bats[a])):=by
       show _=_;rw[hst.out,←hm2.out];unfold sendB;rw[show held m2 D=(a:Int) from p1,if_pos (by omega)];simp[hab]
      have hbl8:m2.bats.length≤800:=by rw[K2.bats];exact H9.out
      clear p1 hst N2 F2 hX l2 rbY rpY rvY t0' r0 ha had;obtain⟨hmk5,⟨ztx,zba,zdi,zta,zda,zow,zmi,zvo,ztp,zou⟩,S5,R5⟩:=id N5;obtain⟨yA,yc,hzba⟩:=R5.ba.form;have hzba:zba=.slice yA m2.bats.length yc:=hzba;subst hzba;have s4:=S5.nd4;simp only at s4;have hrb:=R5.ba.ownSl.reads (bs:=40) (fun _ _ _ _ hx _=>hx) (by omega);obtain⟨A9,c9,he9,hq9,-,-,-,h59⟩:=hrb;injection he9 with he1 _ he3;subst he1 he3;obtain⟨bb,bo,hyA,hcc9⟩:=h59 (by omega);subst hyA;obtain⟨cs9,-,hcell9,vt,rfl,rt,hts⟩:=hcc9 a hab;have y0:w5.cell? ⟨bb,bo+a*3,none⟩=some (.int .i64 m2.bats[a].author):=hcell9 0 (by decide);have y1:w5.cell? ⟨bb,bo+a*3+1,none⟩=some (.int .i64 m2.bats[a].number):=hcell9 1 (by decide);have y2:w5.cell? ⟨bb,bo+a*3+2,none⟩=some vt:=hcell9 2 (by decide);obtain⟨tA,tc,rfl,htf⟩:=id rt;have habI:(a:Int)<m2.bats.length:=by omega
      clear htf hcell9 hcc9 S5 R5;generalize m2.bats[a]=bt at *
      go_wp2_with fail
      refine(Ze5 i tb g off m2 tw (batM bt) _ _ _ _ _ _ _ o2 _ l5 hi N5 (Zjy rt) hts K2.out).mono ?_;rintro e w6 ⟨rfl,o6,F56,N6⟩;have F6:=F5.trans F56;have hX6:=Za3 hX5 F56.fr hnX;have hnX6:o6 wo.heap.size=none:=((F56.fr.keep wo.heap.size hX5.lt (fun t ht=>by rw[hnX]at ht;cases ht)).1).trans hnX;have hvw6:=hvw5.trans F56.fr.view;have K6:=K2.send tw (batM bt);clear N5 F5 hX5 s4 y0 y1 y2 rt hts;go_wp2;go_roundw
      case rel=>exact⟨q+1,o6,_,by omega,by go_num,hm3.out.symm,F6,N6,K6,hX6,hnX6,hvw6⟩
      case measure=>simp[intOf]<;>omega
    ·have hql:q=x.hdr.batches.length:=by omega
     have hm3:Hid ((L.take (k+1)).foldl (Zg7 tw) n=send m2 tw (prfM x)):=by
      show _=_;rw[hstep.out,←hm.out];unfold Zg7;rw[hm2.out,hql,List.take_length]
     have hqltI:¬(q:Int)<x.hdr.batches.length:=by omega
     have x0:=hX.cell 0;have x1:=hX.cell 1;have x2:=hX.cell 2;have x3:=hX.cell 3;have x4:=hX.cell 4;simp at x0 x1 x2 x3 x4;clear hql hm2 hstep
     go_wp2_with fail
     refine(Ze5 i tb g off m2 tw (prfM x) _ _ _ _ _ _ _ o2 _ l2 hi N2 (Znm rbY rpY rvY) (fun s hs=>by cases hs) K2.out).mono ?_;rintro e w6 ⟨rfl,o6,F26,N6⟩;have F6:=F2.trans F26;have K6:=K2.send tw (prfM x);clear N2 F2 x0 x1 x2 x3 x4 rbY rpY rvY hX;go_wp2;go_roundw
     case rel=>exact⟨k+1,o6,_,by omega,by go_num,hm3.out.symm,F6,N6,K6⟩
     case measure=>simp[intOf]<;>omega
  ·have hkM:k=M:=by omega
   have hres:NodeAt o1 wr i tb g off QR:=by
    rw[HQ.out,hsv.out]
    have:L.take k=L.take 8:=by
     rw[hkM,←hM.out];simp
    rw[←this,←hm.out];exact N1
   have hltI:¬(k:Int)<(M:Int):=by omega
   clear hkM;go_wp2;go_end0;exact⟨rfl,o1,F4.trans F1,hres⟩
theorem Zx8(i gf:Nat)(n:Nd)(m:Msg)(rogue:Int)(signs:List Sign)(vt vb vp vd cb cp cv:Value)(o:Own)(w:World)(hl:Lim o w)(hi:i<4)(hG:SgAt o w gf rogue signs)(hN:NodeAt o w i 0 gf (1+i*15) n)(hT:Tabs (Zas o w))(hm:RMsg (Zas o w) m vt vb vp vd cb cp cv)(hs:∀s∈m.bat.txs,s.size≤140737488355328)(hDag:dagF hD cF n.dag=0)(h5:n.voters.length≤4)(h4:n.out.length≤400)(ht4:n.table.length≤400)(h8:n.digs.length≤800)(hbd:n.digs.length≤n.bats.length)(h9:n.bats.length≤800) :
 Calls Tryz.prog 86 #[.pointer (some ⟨gf,0,none⟩),.int .i64 (i:Int),.agg (msgC m vt vb vp vd cb cp cv)] w fun e w'=>e=.returned (.tuple #[])∧∃o',NFr i 0 gf (1+i*15) o w o' w'∧NodeAt o' w' i 0 gf (1+i*15) (if n.up=false∨(i:Int)=rogue then n else come1 signs rogue n m):=by
 obtain⟨QR,hQR⟩:∃q,Hid ((if n.up=false∨(i:Int)=rogue then n else come1 signs rogue n m)=q):=⟨_,rfl⟩;rw[hQR.out];have HH:=Lib.hid (And.intro hDag (And.intro h5 (And.intro h4 (And.intro ht4 (And.intro h8 (And.intro hbd h9))))));have Hs:=Lib.hid hs;clear hDag h5 h4 ht4 h8 hbd h9 hs;have hm0:=hm;obtain⟨⟨tA,tc,rfl⟩,⟨bA,bc,rfl⟩,⟨pA,pc,rfl⟩,⟨dA,dc,rfl⟩,⟨cA,cc,rfl⟩,⟨qA,qc,rfl⟩,⟨vA,vc,rfl⟩⟩:=hm0.forms;clear hm0;unfold msgC
 go_enter Tryz.func86,Tryz.ntmps86
 go_upto_region 1 with fail
 refine Zo fun W hk hsz hb=>?_
 have l1:=Zam hl hb;have v1:=Zae hl hb;have N1:=hN.below hl hb;have G1:=hG.below hl hb;have T1:=hT.mono v1;have m1:=hm.mono v1;have F1:NFr i 0 gf (1+i*15) o w o W:=(NFr.refl hl).below hb;clear hsz hN hG hT hm;obtain⟨hmk,⟨vtx,vba,vdi,vta,vda,vow,vmi,vvo,vtp,vou⟩,S1,R1⟩:=id N1;have s1:=S1.nd1;obtain⟨-,gr,vs,gs,rs⟩:=id G1;have g0:=gr.cell (j:=0) (show 0<1 by decide);have g61:=gs.cell (j:=0) (show 0<1 by decide);simp at g0 g61;have k2:=hk.cell 2;simp at k2;have hiI:(i:Int)<4:=by omega
 have hi0:(0:Int)≤(i:Int):=by omega
 obtain⟨UP,hUP⟩:∃u,Hid (n.up=u):=⟨_,rfl⟩;rw[hUP.out]at s1;cases UP
 ·have Nr:NodeAt o W i 0 gf (1+i*15) QR:=by rw[←hQR.out,if_pos (.inl hUP.out)];exact N1
  clear N1 S1 R1;go_wp2
  (try simp only[Exit.inBlock,Exit.then])
  refine bodyPost_ret (results_none rfl _ _ _) rfl ?_;exact⟨rfl,o,F1,Nr⟩
 by_cases hr:(i:Int)=rogue
 ·have hrb:((i:Int)==rogue)=true:=by simpa using hr
  have Nr:NodeAt o W i 0 gf (1+i*15) QR:=by rw[←hQR.out,if_pos (.inr hr)];exact N1
  clear N1 S1 R1 hr;go_wp2
  (try simp only[Exit.inBlock,Exit.then])
  refine bodyPost_ret (results_none rfl _ _ _) rfl ?_;exact⟨rfl,o,F1,Nr⟩
 have hrb:((i:Int)==rogue)=false:=by simpa using hr
 have HR:Hid (QR=come1 signs rogue n m):=by
  show _=_;rw[←hQR.out,if_neg (fun e=>e.elim (fun h=>by rw[hUP.out]at h;cases h) hr)]
 clear hr S1 R1;obtain⟨hDag,h5,h4,ht4,h8,hbd,h9⟩:=HH.out;have Hdd:=Lib.hid hDag;clear hDag;obtain⟨K,hK⟩:∃K,Hid (m.kind=K):=⟨_,rfl⟩;rw[hK.out]at k2 hk
 by_cases c1:K=1
 ·have hq:QR=(store n m.bat true).1:=by rw[HR.out];unfold come1;rw[if_pos (hK.out.trans c1)]
  have b1:(K==1)=true:=by simpa using c1
  have e3:=hk.cell 3;have e4:=hk.cell 4;have e5:=hk.cell 5;simp at e3 e4 e5;clear c1
  go_wp2_with fail
  refine(Zke i 0 gf (1+i*15) n m.bat true _ o W l1 (by omega) N1 T1 m1.txs Hs.out h8 h9).mono ?_;rintro e w2 ⟨rfl,o2,F2,N2⟩;rw[←hq]at N2;clear hq;go_wp2;go_end0;exact⟨rfl,o2,F1.trans F2,N2⟩
 have b1:(K==1)=false:=by simpa using c1
 by_cases c2:K=2
 ·have hq:QR=offer signs rogue n m.hdr:=by rw[HR.out];unfold come1;rw[if_neg (by rw[hK.out];exact c1),if_pos (hK.out.trans c2)]
  have b2:(K==2)=true:=by simpa using c2
  have e6:=hk.cell 6;have e7:=hk.cell 7;have e8:=hk.cell 8;have e9:=hk.cell 9;simp at e6 e7 e8 e9;clear c1 c2
  go_wp2_with fail
  refine(Zu1 i gf (1+i*15) n m.hdr _ _ rogue signs o W l1 (by omega) (by omega) (by omega) G1 N1 T1 m1.bats m1.pars ht4 h8 h4).mono ?_;rintro e w2 ⟨rfl,o2,F2,N2⟩;rw[←hq]at N2;clear hq;go_wp2;go_end0;exact⟨rfl,o2,F1.trans F2,N2⟩
 have b2:(K==2)=false:=by simpa using c2
 by_cases c3:K=3
 ·have hq:QR=count signs rogue n m.src m.slt:=by rw[HR.out];unfold come1;rw[if_neg (by rw[hK.out];exact c1),if_neg (by rw[hK.out];exact c2),if_pos (hK.out.trans c3)]
  have b3:(K==3)=true:=by simpa using c3
  have e0:=hk.cell 0;have e10:=hk.cell 10;have e11:=hk.cell 11;have e12:=hk.cell 12;simp at e0 e10 e11 e12;clear c1 c2 c3
  go_wp2_with fail
  refine(count_any i gf (1+i*15) n m.src m.slt _ rogue signs o W l1 (by omega) (by omega) (by omega) G1 N1 T1 m1.dig h5 h4).mono ?_;rintro e w2 ⟨rfl,o2,F2,N2⟩;rw[←hq]at N2;clear hq;go_wp2;go_end0;exact⟨rfl,o2,F1.trans F2,N2⟩
 have b3:(K==3)=false:=by simpa using c3
 by_cases c4:K=4
 ·have HR4:Hid (QR=if Zl4 signs rogue m.crt=0 then(insert n m.crt true).1 else n):=by show _=_;rw[HR.out];unfold come1;rw[if_neg (by rw[hK.out];exact c1),if_neg (by rw[hK.out];exact c2),if_neg (by rw[hK.out];exact c3),if_pos (hK.out.trans c4)]
  have b4:(K==4)=true:=by simpa using c4
  have e13:=hk.cell 13;have e14:=hk.cell 14;have e15:=hk.cell 15;have e16:=hk.cell 16;have e17:=hk.cell 17;simp at e13 e14 e15 e16 e17;clear c1 c2 c3 c4
  go_wp2_with fail
  obtain⟨QP,hQP⟩:∃q,Hid (Zl4 signs rogue m.crt=q):=⟨_,rfl⟩;rw[hQP.out]at HR4;obtain⟨sA,sc,rfl,hfs⟩:=id rs;clear hfs;refine Zr [] (.q 0 (.q 1 (.q 2 (.q 3 (.q 4 (.q 5 (.q 6 (.q 7 (.q 8 (.q 9 (.l 10 (.q 11 .nil)))))))))))) fun W3 hS3=>?_
  repeat((first|refine pq (h:=⟨_,fun w' hS=>by(have x:=hk.kept hS;have y13:=x.cell 13;have y14:=x.cell 14;have y15:=x.cell 15;have y16:=x.cell 16;have y17:=x.cell 17;have z0:=Zaa hS _ _ g0;have z61:=Zaa hS _ _ g61;simp at y13 y14 y15 y16 y17;go_simp;exact rfl),?_⟩)|refine Zq ?_);simp only[sx])
  refine Zd fun K hK=>?_
  try simp only[sy]
  go_simp;have q3:=Zaa hS3;refine(Zss _ signs rogue m.crt _ _ _ _ ((rs.mono RSign.mono (Zag _ _)).mono RSign.mono q3) ((m1.cbats.mono RDig.mono (Zag _ _)).mono RDig.mono q3) ((m1.cpars.mono RDig.mono (Zag _ _)).mono RDig.mono q3) ((m1.vots.mono (Zag _ _)).mono q3) ((T1.mono (Zag _ _)).mono q3)).mono ?_;rintro e w4 ⟨rfl,hb4⟩;rw[hQP.out];have hS4:=hS3.trans (hb4.mono hS3.size);have N4:=N1.below l1 hS4;have F4:=F1.below hS4;have l4:=Zam l1 hS4;have v4:=Zae l1 hS4;have hk4:=hk.kept hS4
  by_cases hp:QP=0
  ·have hpb:(QP==0)=true:=by simpa using hp
   have hq:QR=(insert n m.crt true).1:=by rw[HR4.out,if_pos hp]
   clear hp;refine hK.out _ _ (hS4) fun hS=>?_
   clear hK K
   try simp only[sx]
   repeat(refine Zq ?_;simp only[sx])
   refine Zah ?_;have e13:=hk4.cell 13;have e14:=hk4.cell 14;have e15:=hk4.cell 15;have e16:=hk4.cell 16;have e17:=hk4.cell 17;simp at e13 e14 e15 e16 e17
   go_wp2_with fail
   refine(Zi2 i 0 gf (1+i*15) n m.crt true _ _ _ o w4 l4 (by omega) N4 (T1.mono v4) (m1.cbats.mono RDig.mono v4) (m1.cpars.mono RDig.mono v4) (m1.vots.mono v4)).mono ?_;rintro e w5 ⟨rfl,o2,F2,N2⟩;rw[←hq]at N2;clear hq;go_wp2;go_end0;exact⟨rfl,o2,F4.trans F2,N2⟩
  ·have hpb:(QP==0)=false:=by simpa using hp
   have Nr:NodeAt o w4 i 0 gf (1+i*15) QR:=by rw[HR4.out,if_neg hp];exact N4
   clear hp;refine hK.out _ _ (hS4) fun hS=>?_
   clear hK K
   try simp only[sx]
   repeat(refine Zq ?_;simp only[sx])
   refine Zah ?_;go_wp2;go_end0;exact⟨rfl,o,F4,Nr⟩
 have b4:(K==4)=false:=by simpa using c4
 by_cases c5:K=5
 ·have hq:QR=serve n m.src m.round:=by rw[HR.out];unfold come1;rw[if_neg (by rw[hK.out];exact c1),if_neg (by rw[hK.out];exact c2),if_neg (by rw[hK.out];exact c3),if_neg (by rw[hK.out];exact c4),if_pos (hK.out.trans c5)]
  have b5:(K==5)=true:=by simpa using c5
  have e0:=hk.cell 0;have e18:=hk.cell 18;simp at e0 e18;clear c1 c2 c3 c4 c5
  go_wp2_with fail
  refine(Zui i 0 gf (1+i*15) n m.src m.round o W l1 (by omega) N1 Hdd.out h4 h8 hbd h9).mono ?_;rintro e w2 ⟨rfl,o2,F2,N2⟩;rw[←hq]at N2;clear hq;go_wp2;go_end0;exact⟨rfl,o2,F1.trans F2,N2⟩
 have b5:(K==5)=false:=by simpa using c5
 have Nr:NodeAt o W i 0 gf (1+i*15) QR:=by
  have:QR=n:=by rw[HR.out];unfold come1;rw[if_neg (by rw[hK.out];exact c1),if_neg (by rw[hK.out];exact c2),if_neg (by rw[hK.out];exact c3),if_neg (by rw[hK.out];exact c4),if_neg (by rw[hK.out];exact c5)]
  rw[this];exact N1
 clear N1 c1 c2 c3 c4 c5;go_wp2;go_end0;exact⟨rfl,o,F1,Nr⟩
theorem Zsb(i tb g off gb:Nat)(n:Nd)(d:Value)(x:List UInt8)(o:Own)(w:World)(hN:NodeAt o w i tb g off n)(hc:w.cell? ⟨gb,0,none⟩=some (.pointer (some ⟨g,off,none⟩)))(hd:Zao w.cell? d x)(h8:n.digs.length≤800) :
 Calls Tryz.prog 184 (#[d]++#[.pointer (some ⟨gb,0,none⟩)]) w fun e w'=>e=.returned (.bool (decide (held n x<0)))∧Below w.heap.size w w':=by
 obtain⟨A,c,rfl,hf⟩:=id hd;clear hf;show Calls Tryz.prog 184 #[.slice A x.length c,.pointer (some ⟨gb,0,none⟩)] w _;obtain⟨H,hH⟩:∃H,Hid (held n x=H):=⟨_,rfl⟩;rw[hH.out]
 go_enter Tryz.func184,Tryz.ntmps184
 go_wp2_with fail
 refine(Zgt i tb g off n _ x o _ hN hd h8).mono ?_;rintro e w1 ⟨rfl,hb1⟩;rw[hH.out]
 by_cases h:H<0
 ·go_wp2;go_ret;exact⟨Zap (by simp[h]),hb1⟩
 ·go_wp2;go_ret;exact⟨Zap (by simp[h]),hb1⟩
theorem Zmb(i tb g off:Nat)(n:Nd)(round:Int)(o:Own)(w:World)(hl:Lim o w)(hN:NodeAt o w i tb g off n)(hr0:0≤round)(hr1:round≤140737488355328)(h8:n.digs.length≤800) :
 Calls Tryz.prog 159 #[.pointer (some ⟨g,off,none⟩),.int .i64 round] w fun e w'=>e=.returned (.int .i64 (wanted n round))∧Below w.heap.size w w':=by
 obtain⟨QW,hQW⟩:∃q,Hid (wanted n round=q):=⟨_,rfl⟩;rw[hQW.out];obtain⟨Z0,hZ0⟩:∃z,Hid (max 1 (round-1)=z):=⟨_,rfl⟩;have H8:=Lib.hid h8;clear h8;have eg:=enters_of Tryz.func184 (by kernel_rfl) rfl
 go_enter Tryz.func159,Tryz.ntmps159
 go_upto_region 1 with fail
 refine Zo fun W hk hsz hb=>?_
 have l1:=Zam hl hb;have N1:=hN.below hl hb;have g0:=hk.cell 0;simp at g0;clear hsz hN;obtain⟨hmk,⟨vtx,vba,vdi,vta,vda,vow,vmi,vvo,vtp,vou⟩,S1,R1⟩:=id N1;have s7:=S1.nd7;simp only at s7;have rda:RCrts W.cell? vda n.dag:=R1.da.mono RCrt.mono (Zag _ _);obtain⟨daA,dac,hda,_⟩:=id rda;have hda:vda=.slice daA n.dag.length dac:=hda;subst hda;obtain⟨-,hn1,hn2,hel⟩:=RCrts.at rda;have Hel:=Lib.hid hel;have hmx:max (1:Int) (round-1)=Z0:=hZ0.out;clear hel S1 R1 rda
 go_wp2_with fail
 go_loopw [5,7,17] (fun z _ j wr=>∃(k:Nat) (Z:Int),k≤n.dag.length∧j=.int .i64 k∧z=.int .i64 Z∧Hid (Z=(n.dag.take k).foldl (Zm6 n) Z0)∧Below W.heap.size W wr) (fun _ _ j _=>n.dag.length-(intOf j).toNat)
 case atStart=>exact⟨0,Z0,Nat.zero_le _,rfl,rfl,rfl,Below.refl _ _⟩
 case round =>
  obtain⟨k,Z,hk1,rfl,rfl,hZ,hbl⟩:=hrel;have hzr:=hbl.size
  by_cases hlt:k<n.dag.length
  ·have hltI:(k:Int)<n.dag.length:=by omega
   obtain⟨b0,o0,ub,up,uv,hA0,q0,q1,q2,q3,q4,rb,rp,rv⟩:=Hel.out k hlt;subst hA0;have q:=Zaa hbl;have c0:=q _ _ q0;have c1:=q _ _ q1;have c2:=q _ _ q2;have c3:=q _ _ q3;have c4:=q _ _ q4;have rb':=rb.mono RDig.mono q
   have hstep:Hid ((n.dag.take (k+1)).foldl (Zm6 n) Z0=Zm6 n ((n.dag.take k).foldl (Zm6 n) Z0) n.dag[k]):=by
    show _=_;rw[List.take_succ_eq_append_getElem hlt,List.foldl_append];rfl
   obtain⟨bA,bc,rfl,hfb⟩:=id rb;obtain⟨pA,pc,rfl,hfp⟩:=id rp;obtain⟨eA,ec,rfl,hfv⟩:=id rv;clear hfb hfp hfv q0 q1 q2 q3 q4 rb rp rv;generalize n.dag[k]=x at *
   go_upto_region 5 with fail
   refine Zo fun W2 hX hsX hbX=>?_
   have hbl2:=hbl.trans (hbX.mono hzr);have N2:=N1.below l1 hbl2;have l2:=Zam l1 hbl2;have rb2:=rb'.mono RDig.mono (Zaa hbX);have g2:=Zaa hbl2 _ _ g0;have x1:=hX.cell 1;have x2:=hX.cell 2;simp at x1 x2;have hz2:=hbl2.size;obtain⟨QA,hQA⟩:∃q,Hid (x.hdr.batches.any (fun d=>decide (held n d<0))=q):=⟨_,rfl⟩;clear hsX c0 c1 c2 c3 c4 rb'
   go_wp2_with fail
   refine(Zk2 184 #[.pointer (some ⟨w.heap.size,0,none⟩)] (fun d=>decide (held n d<0)) eg _ x.hdr.batches W2 rb2 (fun W3 d y hW hy=>Zsb i tb g off w.heap.size n d y o W3 (N2.below l2 hW) (Zaa hW _ _ g2) hy H8.out)).mono ?_;rintro e w3 ⟨rfl,hb3⟩;rw[hQA.out];have hbl3:=hbl2.trans (hb3.mono hz2);have hX3:=hX.kept hb3;cases QA
   ·have hZ2:Hid (Z=(n.dag.take (k+1)).foldl (Zm6 n) Z0):=by
     show _=_;rw[hstep.out,←hZ.out];unfold Zm6;rw[hQA.out];rfl
    clear hstep x1 x2 rb2 hX hX3;go_wp2;go_roundw
    case rel=>exact⟨k+1,Z,by omega,by go_num,rfl,hZ2,hbl3⟩
    case measure=>simp[intOf]<;>omega
   ·obtain⟨Z2,hZ2'⟩:∃z,min Z x.hdr.round=z:=⟨_,rfl⟩
    have hZ2:Hid (Z2=(n.dag.take (k+1)).foldl (Zm6 n) Z0):=by
     show _=_;rw[hstep.out,←hZ.out];unfold Zm6;rw[hQA.out];exact hZ2'.symm
    have y1:=hX3.cell 1;simp at y1;clear hstep x1 x2 rb2 hX hX3;go_wp2;go_roundw
    case rel=>exact⟨k+1,Z2,by omega,by go_num,rfl,hZ2,hbl3⟩
    case measure=>simp[intOf]<;>omega
  ·have hkl:k=n.dag.length:=by omega
   have hZe:Hid (Z=QW):=by
    show _=_;rw[hZ.out,hkl,List.take_length,←hZ0.out];exact hQW.out
   have hltI:¬(k:Int)<n.dag.length:=by omega
   clear hkl;go_wp2;go_ret;exact⟨Zaj hZe.out,hb.trans (hbl.mono (by have:=hb.size;omega))⟩
end Fl
end Go.Proofs.YtinibgklgehdpaaGreatDoor
