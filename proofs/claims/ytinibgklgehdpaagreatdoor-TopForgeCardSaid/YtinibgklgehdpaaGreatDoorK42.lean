/- A part of what the last text stands on. -/
import Derived.Deep.DeepCutAuto
import Derived.Deep.CutBlock
import Derived.LaidMore
import Derived.Stop.Joined
import Derived.Test.YtinibgklgehdpaaGreatDoorCards
import Derived.Test.YtinibgklgehdpaaGreatDoorTie
import Derived.SevenTiedAt
import Derived.Test.YtinibgklgehdpaaGreatDoorK02
import Derived.Test.YtinibgklgehdpaaGreatDoorK03
import Derived.Test.YtinibgklgehdpaaGreatDoorK04
import Derived.Test.YtinibgklgehdpaaGreatDoorK05
import Derived.Test.YtinibgklgehdpaaGreatDoorK07
import Derived.Test.YtinibgklgehdpaaGreatDoorK09
import Derived.Test.YtinibgklgehdpaaGreatDoorK16
import Derived.Test.YtinibgklgehdpaaGreatDoorK41
namespace Go.Proofs.YtinibgklgehdpaaGreatDoor
open Go.ChangeShapes Go.WideShapes Go.ChangeAt Go.RowKit Qa Qb Qc
set_option linter.all false
set_option maxHeartbeats 20000000
set_option maxRecDepth 100000
variable{P:Program}{W:World}{v:Value}{h:View}{t:TypeId}{k g:Nat}{f:Fl.Ft}
namespace Kp
theorem below_2(w:World)(o1 o2:Obj):Below w.heap.size w ((w.alloc o1).alloc o2):=((Below.refl _ _).alloc (Nat.le_refl _) _).alloc (Zau _ (Nat.le_refl _)) _
theorem Zre(va vb:Value)(a b:List UInt8)(w:World)(ha:Zao w.cell? va a)(hb:Zao w.cell? vb b) :
 Calls Tryz.prog 73 #[va,vb] w fun e w'=>e=.returned (.bool (a==b))∧w=w':=by
 have ga:=Zet ha;have gb:=Zet hb;have He:=Lib.hid (Zv3 a b);clear ha hb
 go_enter Tryz.func73,Tryz.ntmps73
 go_wp2;go_ret;exact⟨Zap He.out,rfl⟩
theorem Zl0(va vb:Value)(l:List ByteArray)(w:World)(ha:RTexts w.cell? va l)(hb:RTexts w.cell? vb l) :
 Calls Tryz.prog 103 #[va,vb] w fun e w'=>e=.returned (.bool true)∧Below w.heap.size w w':=by
 obtain⟨A,c,rfl,hlen,hel⟩:=ha.form;obtain⟨B,d,rfl,_,hel2⟩:=hb.form;have Hel:=Lib.hid hel;have Hel2:=Lib.hid hel2;clear hel hel2 ha hb
 go_enter Tryz.func103,Tryz.ntmps103
 go_wp2
 go_loopw [5] (fun i wr=>∃k:Nat,k≤l.length∧i=.int .i64 k∧Below w.heap.size w wr) (fun i _=>l.length-(intOf i).toNat)
 case atStart=>exact⟨0,Nat.zero_le _,rfl,Below.refl _ _⟩
 case round =>
  obtain⟨k,hk,rfl,hbl⟩:=hrel
  by_cases hlt:k<l.length
  ·obtain⟨b0,o0,rfl,hcell⟩:=Hel.out k hlt;obtain⟨b1,o1,rfl,hcell2⟩:=Hel2.out k hlt;have c1:wr.cell? ⟨b0,o0+k,none⟩=some (.string l[k]):=Zaa hbl _ _ hcell;have c2:wr.cell? ⟨b1,o1+k,none⟩=some (.string l[k]):=Zaa hbl _ _ hcell2;clear hcell hcell2;go_wp2
   refine Zcg (fun w'=>Below wr.heap.size wr w') [(0,true),(1,true),(2,true),(3,true),(4,true),(5,true),(6,true),(7,true),(8,true)] (by kernel_rfl) (by kernel_rfl) (fun _ _ d _ _ h=>by cases d<;>exact h) rfl (by kernel_rfl) ?_ ?_
   ·exact Zad _
   intro W1 hS
   repeat((first|refine Zbc rfl rfl ⟨_,fun w' hS=>by(have h1:=Zaa hS _ _ c1;have h2:=Zaa hS _ _ c2;go_simp;exact rfl),?_⟩|refine Zbh (by assumption) rfl rfl ?_);simp only[sx])
   refine Zen ?_;go_wp2;go_roundw
   case rel=>exact⟨k+1,by omega,by go_num,hbl.trans (hS.mono hbl.size)⟩
   case measure=>simp[intOf];omega
  ·go_wp2;go_ret;exact⟨rfl,hbl⟩
theorem Zl1(a r:Int)(va vb:Value)(l:List ByteArray)(w:World)(ha:RTexts w.cell? va l)(hb:RTexts w.cell? vb l) :
 Calls Tryz.prog 72 #[.agg #[.int .i64 a,.int .i64 r,va],.agg #[.int .i64 a,.int .i64 r,vb]] w fun e w'=>e=.returned (.bool true)∧Below w.heap.size w w':=by
 go_enter Tryz.func72,Tryz.ntmps72
 go_wp2_with fail
 refine(Zl0 _ _ l _ (ha.mono (Zaa (below_2 _ _ _))) (hb.mono (Zaa (below_2 _ _ _)))).mono ?_;rintro e w1 ⟨rfl,hk⟩;go_wp2;go_ret;exact⟨rfl,(below_2 _ _ _).trans (hk.mono (by simp;omega))⟩
theorem Zg9(va vb:Value)(l:List (List UInt8))(w:World)(ha:RDigs w.cell? va l)(hb:RDigs w.cell? vb l) :
 Calls Tryz.prog 132 #[va,vb] w fun e w'=>e=.returned (.bool true)∧Below w.heap.size w w':=by
 obtain⟨A,c,rfl,_⟩:=id ha;obtain⟨B,d,rfl,_⟩:=id hb;obtain⟨_,_,hlen,hel⟩:=ha.at;obtain⟨_,_,_,hel2⟩:=hb.at;have Hel:=Lib.hid hel;have Hel2:=Lib.hid hel2;clear hel hel2 ha hb
 go_enter Tryz.func132,Tryz.ntmps132
 go_wp2
 go_loopw [5] (fun i wr=>∃k:Nat,k≤l.length∧i=.int .i64 k∧Below w.heap.size w wr) (fun i _=>l.length-(intOf i).toNat)
 case atStart=>exact⟨0,Nat.zero_le _,rfl,Below.refl _ _⟩
 case round =>
  obtain⟨k,hk,rfl,hbl⟩:=hrel
  by_cases hlt:k<l.length
  ·obtain⟨b0,o0,d0,rfl,e0,hd0⟩:=Hel.out k hlt;obtain⟨b1,o1,d1,rfl,e1,hd1⟩:=Hel2.out k hlt;have c0:=Zaa hbl _ _ e0;have c1:=Zaa hbl _ _ e1;have hd0:=hd0.mono (Zaa hbl);have hd1:=hd1.mono (Zaa hbl);generalize l[k]=x at hd0 hd1;clear e0 e1
   go_upto_region 6 with fail
   refine Zr [] (.q 0 (.q 1 (.q 2 (.q 3 (.q 4 (.q 5 (.q 6 (.q 7 (.l 8 (.q 9 .nil)))))))))) fun W hS=>?_
   repeat((first|refine pq (h:=⟨_,fun w' hS=>by(have q:=Zaa hS;have a0:=q _ _ c0;have a1:=q _ _ c1;go_simp;exact rfl),?_⟩)|refine Zq ?_);simp only[sx])
   refine Zd fun K hK=>?_
   try simp only[sy]
   go_simp;refine(Zre _ _ x x _ (hd0.mono (Zaa hS)) (hd1.mono (Zaa hS))).mono ?_;rintro e w5 ⟨rfl,rfl⟩;rw[show(x==x)=true from beq_self_eq_true x];refine hK.out _ _ (hS) fun hS=>?_
   clear hK K
   try simp only[sx]
   repeat(refine Zq ?_;simp only[sx])
   refine Zah ?_;go_wp2;go_roundw
   case rel=>exact⟨k+1,by omega,by go_num,hbl.trans (hS.mono hbl.size)⟩
   case measure=>simp[intOf];omega
  ·go_wp2;go_ret;exact⟨rfl,hbl⟩
theorem Zkp(a r:Int)(vb vp vb' vp':Value)(b p:List (List UInt8))(w:World)(hb:RDigs w.cell? vb b)(hp:RDigs w.cell? vp p)(hb':RDigs w.cell? vb' b)(hp':RDigs w.cell? vp' p) :
 Calls Tryz.prog 101 #[.agg #[.int .i64 a,.int .i64 r,vb,vp],.agg #[.int .i64 a,.int .i64 r,vb',vp']] w fun e w'=>e=.returned (.bool true)∧Below w.heap.size w w':=by
 go_enter Tryz.func101,Tryz.ntmps101
 go_wp2_with fail
 refine Za6 _ _ _ _ _ (fun W=>Calls Tryz.prog _ _ W _) (fun W hk1 hk2 hsz hbl=>?_);have q:=Zaa hbl;refine(Zg9 _ _ b _ (hb.mono RDig.mono q) (hb'.mono RDig.mono q)).mono ?_;rintro e w1 ⟨rfl,hb1⟩;have hbl1:=hbl.trans (hb1.mono hbl.size);have g3:=(hk1.kept hb1).cell 3;have f3:=(hk2.kept hb1).cell 3;simp at g3 f3;have q:=Zaa hbl1
 go_wp2_with fail
 refine(Zg9 _ _ p _ (hp.mono RDig.mono q) (hp'.mono RDig.mono q)).mono ?_;rintro e w2 ⟨rfl,hb2⟩;go_wp2;go_ret;exact⟨rfl,hbl1.trans (hb2.mono hbl1.size)⟩
theorem Zni(va vb:Value)(l:List Int)(w:World)(ha:RIs w.cell? va l)(hb:RIs w.cell? vb l) :
 Calls Tryz.prog 102 #[va,vb] w fun e w'=>e=.returned (.bool true)∧Below w.heap.size w w':=by
 obtain⟨A,c,rfl,_⟩:=id ha;obtain⟨B,d,rfl,_⟩:=id hb;obtain⟨_,_,hlen,hel⟩:=ha.at;obtain⟨_,_,_,hel2⟩:=hb.at;have Hel:=Lib.hid hel;have Hel2:=Lib.hid hel2;clear hel hel2 ha hb
 go_enter Tryz.func102,Tryz.ntmps102
 go_wp2
 go_loopw [5] (fun i wr=>∃k:Nat,k≤l.length∧i=.int .i64 k∧Below w.heap.size w wr) (fun i _=>l.length-(intOf i).toNat)
 case atStart=>exact⟨0,Nat.zero_le _,rfl,Below.refl _ _⟩
 case round =>
  obtain⟨k,hk,rfl,hbl⟩:=hrel
  by_cases hlt:k<l.length
  ·obtain⟨b0,o0,rfl,e0⟩:=Hel.out k hlt;obtain⟨b1,o1,rfl,e1⟩:=Hel2.out k hlt;have c0:=Zaa hbl _ _ e0;have c1:=Zaa hbl _ _ e1;generalize l[k]=x at c0 c1;clear e0 e1;go_wp2;refine Zr [] (.q 0 (.q 1 (.q 2 (.q 3 (.q 4 (.q 5 (.q 6 (.q 7 (.q 8 .nil))))))))) fun W hS=>?_
   repeat((first|refine pq (h:=⟨_,fun w' hS=>by(have q:=Zaa hS;have a0:=q _ _ c0;have a1:=q _ _ c1;go_simp;exact rfl),?_⟩)|refine Zq ?_);simp only[sx])
   refine Zah ?_;go_wp2;go_roundw
   case rel=>exact⟨k+1,by omega,by go_num,hbl.trans (hS.mono hbl.size)⟩
   case measure=>simp[intOf];omega
  ·go_wp2;go_ret;exact⟨rfl,hbl⟩
theorem Znj(a r:Int)(vb vp vv vb' vp' vv':Value)(b p:List (List UInt8))(vs:List Int)(w:World)(hb:RDigs w.cell? vb b)(hp:RDigs w.cell? vp p)(hv:RIs w.cell? vv vs)(hb':RDigs w.cell? vb' b)(hp':RDigs w.cell? vp' p)(hv':RIs w.cell? vv' vs) :
 Calls Tryz.prog 71 #[.agg #[.int .i64 a,.int .i64 r,vb,vp,vv],.agg #[.int .i64 a,.int .i64 r,vb',vp',vv']] w fun e w'=>e=.returned (.bool true)∧Below w.heap.size w w':=by
 go_enter Tryz.func71,Tryz.ntmps71
 go_wp2_with fail
 refine Za6 _ _ _ _ _ (fun W=>Calls Tryz.prog _ _ W _) (fun W hk1 hk2 hsz hbl=>?_);have q:=Zaa hbl;refine(Zkp a r _ _ _ _ b p _ (hb.mono RDig.mono q) (hp.mono RDig.mono q) (hb'.mono RDig.mono q) (hp'.mono RDig.mono q)).mono ?_;rintro e w1 ⟨rfl,hb1⟩;have hbl1:=hbl.trans (hb1.mono hbl.size);have g4:=(hk1.kept hb1).cell 4;have f4:=(hk2.kept hb1).cell 4;simp at g4 f4;have q:=Zaa hbl1
 go_wp2_with fail
 refine(Zni _ _ vs _ (hv.mono q) (hv'.mono q)).mono ?_;rintro e w2 ⟨rfl,hb2⟩;go_wp2;go_ret;exact⟨rfl,hbl1.trans (hb2.mono hbl1.size)⟩
theorem Zn3(a r:Int)(vb vp vv vb' vp' vv':Value)(b p:List (List UInt8))(vs:List Int)(w:World)(hb:RDigs w.cell? vb b)(hp:RDigs w.cell? vp p)(hv:RIs w.cell? vv vs)(hb':RDigs w.cell? vb' b)(hp':RDigs w.cell? vp' p)(hv':RIs w.cell? vv' vs) :
 Calls Tryz.prog 40 #[.agg #[.int .i64 a,.int .i64 r,vb,vp,vv],.agg #[.int .i64 a,.int .i64 r,vb',vp',vv']] w fun e w'=>e=.returned (.bool true)∧Below w.heap.size w w':=by
 go_enter Tryz.func40,Tryz.ntmps40
 go_wp2_with fail
 refine Za6 _ _ _ _ _ (fun W=>Calls Tryz.prog _ _ W _) (fun W hk1 hk2 hsz hbl=>?_);have q:=Zaa hbl;refine(Znj a r _ _ _ _ _ _ b p vs _ (hb.mono RDig.mono q) (hp.mono RDig.mono q) (hv.mono q) (hb'.mono RDig.mono q) (hp'.mono RDig.mono q) (hv'.mono q)).mono ?_;rintro e w1 ⟨rfl,hb1⟩;go_wp2;go_ret;exact⟨rfl,hbl.trans (hb1.mono hbl.size)⟩
theorem Zl8(a r:Int)(va vb:Value)(l:List ByteArray)(w:World)(ha:RTexts w.cell? va l)(hb:RTexts w.cell? vb l) :
 Calls Tryz.prog 41 #[.agg #[.int .i64 a,.int .i64 r,va],.agg #[.int .i64 a,.int .i64 r,vb]] w fun e w'=>e=.returned (.bool true)∧Below w.heap.size w w':=by
 go_enter Tryz.func41,Tryz.ntmps41
 go_wp2_with fail
 refine Za6 _ _ _ _ _ (fun W=>Calls Tryz.prog _ _ W _) (fun W hk1 hk2 hsz hbl=>?_);have q:=Zaa hbl;refine(Zl1 a r _ _ l _ (ha.mono q) (hb.mono q)).mono ?_;rintro e w1 ⟨rfl,hb1⟩;go_wp2;go_ret;exact⟨rfl,hbl.trans (hb1.mono hbl.size)⟩
def Zmi(x y:Slot):Bool:=decide (x.author=y.author∧x.round=y.round)&&(x.digest==y.digest)
theorem Zp1(x:Slot):Zmi x x=true:=by unfold Zmi;simp
theorem Zow(x y:Slot)(va vb:Value)(w:World)(ha:Zao w.cell? va x.digest)(hb:Zao w.cell? vb y.digest) :
 Calls Tryz.prog 42 #[.agg #[.int .i64 x.author,.int .i64 x.round,va],.agg #[.int .i64 y.author,.int .i64 y.round,vb]] w fun e w'=>e=.returned (.bool (Zmi x y))∧Below w.heap.size w w':=by
 obtain⟨Q,hQ⟩:∃q,Hid (Zmi x y=q):=⟨_,rfl⟩;rw[hQ.out];have HQ:Hid (Q=(decide (x.author=y.author∧x.round=y.round)&&(x.digest==y.digest))):=hQ.out.symm;clear hQ;obtain⟨xa,xr,xd⟩:=x;obtain⟨ya,yr,yd⟩:=y;simp only at ha hb HQ⊢
 by_cases h1:xa=ya
 ·subst h1
  by_cases h2:xr=yr
  ·subst h2;have HQ2:Hid ((xd==yd)=Q):=by show _=_;rw[HQ.out];simp
   clear HQ
   go_enter Tryz.func42,Tryz.ntmps42
   go_wp2_with fail
   refine Za6 _ _ _ _ _ (fun W=>Calls Tryz.prog _ _ W _) (fun W hk1 hk2 hsz hbl=>?_);have q:=Zaa hbl;refine(Zre _ _ xd yd _ (ha.mono q) (hb.mono q)).mono ?_;rintro e w1 ⟨rfl,rfl⟩;rw[HQ2.out];go_wp2;go_ret;exact⟨rfl,hbl⟩
  ·have HQ2:Hid (Q=false):=by show _=_;rw[HQ.out];simp[h2]
   have h2b:(xr==yr)=false:=by simpa using h2
   clear HQ ha hb
   go_enter Tryz.func42,Tryz.ntmps42
   go_wp2;go_ret;exact⟨Zap HQ2.out.symm,below_2 _ _ _⟩
 ·have HQ2:Hid (Q=false):=by show _=_;rw[HQ.out];simp[h1]
  have h1b:(xa==ya)=false:=by simpa using h1
  clear HQ ha hb
  go_enter Tryz.func42,Tryz.ntmps42
  go_wp2;go_ret;exact⟨Zap HQ2.out.symm,below_2 _ _ _⟩
theorem Zoq(x y:Slot)(va vb:Value)(w:World)(ha:Zao w.cell? va x.digest)(hb:Zao w.cell? vb y.digest) :
 Calls Tryz.prog 25 #[.agg #[.int .i64 x.author,.int .i64 x.round,va],.agg #[.int .i64 y.author,.int .i64 y.round,vb]] w fun e w'=>e=.returned (.bool (Zmi x y))∧Below w.heap.size w w':=by
 obtain⟨Q,hQ⟩:∃q,Hid (Zmi x y=q):=⟨_,rfl⟩;rw[hQ.out];have h:=Zow x y va vb;rw[hQ.out]at h;have H:=Lib.hid h;clear h hQ;obtain⟨xa,xr,xd⟩:=x;obtain⟨ya,yr,yd⟩:=y
 go_enter Tryz.func25,Tryz.ntmps25
 go_wp2_with fail
 refine Za6 _ _ _ _ _ (fun W=>Calls Tryz.prog _ _ W _) (fun W hk1 hk2 hsz hbl=>?_);have q:=Zaa hbl;refine(H.out _ (ha.mono q) (hb.mono q)).mono ?_;rintro e w1 ⟨rfl,hb1⟩;go_wp2;go_ret;exact⟨rfl,hbl.trans (hb1.mono hbl.size)⟩
end Kp
namespace Kp
theorem sameKnown_any(u1 u2:Bool)(r:Int)(vc vb vv vp vc' vb' vv' vp':Value)(cs:List Crt)(bs:List Bat)(ts:List Slot)(w:World)(rc:RCrts w.cell? vc cs)(rb:RBats w.cell? vb bs)(rv:RSlots w.cell? vv ts)(rc':RCrts w.cell? vc' cs)(rb':RBats w.cell? vb' bs)(rv':RSlots w.cell? vv' ts)(hp:∃A n c,vp=.slice A n c)(hp':∃A n c,vp'=.slice A n c) :
 Calls Tryz.prog 24 #[.agg #[.bool u1,.int .i64 r,vc,vb,vv,vp],.agg #[.bool u2,.int .i64 r,vc',vb',vv',vp']] w fun e w'=>e=.returned (.bool true)∧Below w.heap.size w w':=by
 obtain⟨C1,c1,rfl,f1⟩:=id rc;obtain⟨B1,b1,rfl,f2⟩:=id rb;obtain⟨S1,s1,rfl,f3⟩:=id rv;obtain⟨C2,c2,rfl,f4⟩:=id rc';obtain⟨B2,b2,rfl,f5⟩:=id rb';obtain⟨S2,s2,rfl,f6⟩:=id rv';obtain⟨P1,n1,p1,rfl⟩:=hp;obtain⟨P2,n2,p2,rfl⟩:=hp';clear f1 f2 f3 f4 f5 f6;obtain⟨_,_,hcl,hc1⟩:=rc.at;obtain⟨_,_,_,hc2⟩:=rc'.at;obtain⟨_,_,hbl,hb1⟩:=rb.at;obtain⟨_,_,_,hb2⟩:=rb'.at;obtain⟨_,_,hvl,hv1⟩:=rv.at;obtain⟨_,_,_,hv2⟩:=rv'.at;have HC1:=Lib.hid hc1;have HC2:=Lib.hid hc2;have HB1:=Lib.hid hb1;have HB2:=Lib.hid hb2;have HV1:=Lib.hid hv1;have HV2:=Lib.hid hv2;clear hc1 hc2 hb1 hb2 hv1 hv2 rc rb rv rc' rb' rv'
 go_enter Tryz.func24,Tryz.ntmps24
 go_upto_region 1 with fail
 refine Za6 _ _ _ _ _ (fun W=>Code.wp _ _ _ _ W) (fun W hk1 hk2 hsz hbw=>?_);have x1:=hk1.cell 1;have y1:=hk2.cell 1;have x2:=hk1.cell 2;have y2:=hk2.cell 2;have x3:=hk1.cell 3;have y3:=hk2.cell 3;have x4:=hk1.cell 4;have y4:=hk2.cell 4;simp at x1 y1 x2 y2 x3 y3 x4 y4;have hz:=hbw.size
 go_wp2_with fail
 go_loopw [5] (fun i wr=>∃k:Nat,k≤cs.length∧i=.int .i64 k∧Below W.heap.size W wr) (fun i _=>cs.length-(intOf i).toNat)
 case atStart=>exact⟨0,Nat.zero_le _,rfl,Below.refl _ _⟩
 case round =>
  obtain⟨k,hk,rfl,hbl⟩:=hrel;have hzl:=hbl.size;have m1:=(hk1.kept hbl).cell 2;have m2:=(hk2.kept hbl).cell 2;simp at m1 m2
  by_cases hlt:k<cs.length
  ·have hqq:=Zaa (hbw.trans (hbl.mono hz));have hk1r:=hk1.kept hbl;have hk2r:=hk2.kept hbl;obtain⟨b0,o0,xb,xp,xv,rfl,e0,e1,e2,e3,e4,r1,r2,r3⟩:=HC1.out k hlt;obtain⟨b9,o9,yb,yp,yv,rfl,g0,g1,g2,g3,g4,t1,t2,t3⟩:=HC2.out k hlt;have e0:=hqq _ _ e0;have e1:=hqq _ _ e1;have e2:=hqq _ _ e2;have e3:=hqq _ _ e3;have e4:=hqq _ _ e4;have g0:=hqq _ _ g0;have g1:=hqq _ _ g1;have g2:=hqq _ _ g2;have g3:=hqq _ _ g3;have g4:=hqq _ _ g4;have hkI:(k:Int)<cs.length:=by omega
   generalize cs[k]=x at *
   go_upto_region 6 with fail
   clear m1 m2;refine Zr [] (.q 0 (.q 1 (.q 2 (.q 3 (.q 4 (.q 5 (.q 6 (.q 7 (.q 8 (.q 9 (.l 10 (.q 11 .nil)))))))))))) fun W5 hS=>?_
   repeat((first|refine pq (h:=⟨_,fun w' hS=>by(have q:=Zaa hS;have z1:=(hk1r.kept hS).cell 2;have z2:=(hk2r.kept hS).cell 2;simp at z1 z2;have i0:=q _ _ e0;have j0:=q _ _ g0;have i1:=q _ _ e1;have j1:=q _ _ g1;have i2:=q _ _ e2;have j2:=q _ _ g2;have i3:=q _ _ e3;have j3:=q _ _ g3;have i4:=q _ _ e4;have j4:=q _ _ g4;go_simp;exact rfl),?_⟩)|refine Zq ?_);simp only[sx])
   refine Zd fun K hK=>?_
   try simp only[sy]
   go_simp;have qq:=hqq.trans (Zaa hS);refine(Zn3 _ _ _ _ _ _ _ _ x.hdr.batches x.hdr.parents x.voters _ (r1.mono RDig.mono qq) (r2.mono RDig.mono qq) (r3.mono qq) (t1.mono RDig.mono qq) (t2.mono RDig.mono qq) (t3.mono qq)).mono ?_;rintro e w2 ⟨rfl,hb2⟩;refine hK.out _ _ (hS.trans (hb2.mono hS.size)) fun hS=>?_
   clear hK K
   try simp only[sx]
   repeat(refine Zq ?_;simp only[sx])
   refine Zah ?_;go_wp2;go_roundw
   case rel=>exact⟨k+1,by omega,by go_num,hbl.trans (hS.mono hzl)⟩
   case measure=>simp[intOf];omega
  ·have hkI:¬(k:Int)<cs.length:=by omega
   clear hk hlt;have n1:=(hk1.kept hbl).cell 3;have n2:=(hk2.kept hbl).cell 3;simp at n1 n2
   go_wp2_with fail
   go_loopw [6] (fun i wr=>∃k:Nat,k≤bs.length∧i=.int .i64 k∧Below W.heap.size W wr) (fun i _=>bs.length-(intOf i).toNat)
   case atStart=>exact⟨0,Nat.zero_le _,rfl,hbl⟩
   case round =>
    clear hbl hzl hkI m1 m2 n1 n2;obtain⟨k,hk,rfl,hbl⟩:=hrel;have hzl:=hbl.size;have m1:=(hk1.kept hbl).cell 3;have m2:=(hk2.kept hbl).cell 3;simp at m1 m2
    by_cases hlt:k<bs.length
    ·have hqq:=Zaa (hbw.trans (hbl.mono hz));have hk1r:=hk1.kept hbl;have hk2r:=hk2.kept hbl;obtain⟨b0,o0,xv,rfl,e0,e1,e2,r1,_⟩:=HB1.out k hlt;obtain⟨b9,o9,yv,rfl,g0,g1,g2,t1,_⟩:=HB2.out k hlt;have e0:=hqq _ _ e0;have e1:=hqq _ _ e1;have e2:=hqq _ _ e2;have g0:=hqq _ _ g0;have g1:=hqq _ _ g1;have g2:=hqq _ _ g2;have hkI:(k:Int)<bs.length:=by omega
     generalize bs[k]=x at *
     go_upto_region 11 with fail
     clear m1 m2;refine Zr [] (.q 0 (.q 1 (.q 2 (.q 3 (.q 4 (.q 5 (.q 6 (.q 7 (.q 8 (.q 9 (.l 10 (.q 11 .nil)))))))))))) fun W5 hS=>?_
     repeat((first|refine pq (h:=⟨_,fun w' hS=>by(have q:=Zaa hS;have z1:=(hk1r.kept hS).cell 3;have z2:=(hk2r.kept hS).cell 3;simp at z1 z2;have i0:=q _ _ e0;have j0:=q _ _ g0;have i1:=q _ _ e1;have j1:=q _ _ g1;have i2:=q _ _ e2;have j2:=q _ _ g2;go_simp;exact rfl),?_⟩)|refine Zq ?_);simp only[sx])
     refine Zd fun K hK=>?_
     try simp only[sy]
     go_simp;have qq:=hqq.trans (Zaa hS);refine(Zl8 _ _ _ _ x.txs _ (r1.mono qq) (t1.mono qq)).mono ?_;rintro e w2 ⟨rfl,hb2⟩;refine hK.out _ _ (hS.trans (hb2.mono hS.size)) fun hS=>?_
     clear hK K
     try simp only[sx]
     repeat(refine Zq ?_;simp only[sx])
     refine Zah ?_;go_wp2;go_roundw
     case rel=>exact⟨k+1,by omega,by go_num,hbl.trans (hS.mono hzl)⟩
     case measure=>simp[intOf];omega
    ·have hkI:¬(k:Int)<bs.length:=by omega
     clear hk hlt;have n1:=(hk1.kept hbl).cell 4;have n2:=(hk2.kept hbl).cell 4;simp at n1 n2
     go_wp2_with fail
     go_loopw [7] (fun i wr=>∃k:Nat,k≤ts.length∧i=.int .i64 k∧Below W.heap.size W wr) (fun i _=>ts.length-(intOf i).toNat)
     case atStart=>exact⟨0,Nat.zero_le _,rfl,hbl⟩
     case round =>
      clear hbl hzl hkI m1 m2 n1 n2;obtain⟨k,hk,rfl,hbl⟩:=hrel;have hzl:=hbl.size;have m1:=(hk1.kept hbl).cell 4;have m2:=(hk2.kept hbl).cell 4;simp at m1 m2
      by_cases hlt:k<ts.length
      ·have hqq:=Zaa (hbw.trans (hbl.mono hz));have hk1r:=hk1.kept hbl;have hk2r:=hk2.kept hbl;obtain⟨b0,o0,xv,rfl,e0,e1,e2,r1⟩:=HV1.out k hlt;obtain⟨b9,o9,yv,rfl,g0,g1,g2,t1⟩:=HV2.out k hlt;have e0:=hqq _ _ e0;have e1:=hqq _ _ e1;have e2:=hqq _ _ e2;have g0:=hqq _ _ g0;have g1:=hqq _ _ g1;have g2:=hqq _ _ g2;have hkI:(k:Int)<ts.length:=by omega
       generalize ts[k]=x at *
       go_upto_region 16 with fail
       clear m1 m2;refine Zr [] (.q 0 (.q 1 (.q 2 (.q 3 (.q 4 (.q 5 (.q 6 (.q 7 (.q 8 (.q 9 (.l 10 (.q 11 .nil)))))))))))) fun W5 hS=>?_
       repeat((first|refine pq (h:=⟨_,fun w' hS=>by(have q:=Zaa hS;have z1:=(hk1r.kept hS).cell 4;have z2:=(hk2r.kept hS).cell 4;simp at z1 z2;have i0:=q _ _ e0;have j0:=q _ _ g0;have i1:=q _ _ e1;have j1:=q _ _ g1;have i2:=q _ _ e2;have j2:=q _ _ g2;go_simp;exact rfl),?_⟩)|refine Zq ?_);simp only[sx])
       refine Zd fun K hK=>?_
       try simp only[sy]
       go_simp;have qq:=hqq.trans (Zaa hS);refine(Zoq x x _ _ _ (r1.mono qq) (t1.mono qq)).mono ?_;rintro e w2 ⟨rfl,hb2⟩;rw[Zp1];refine hK.out _ _ (hS.trans (hb2.mono hS.size)) fun hS=>?_
       clear hK K
       try simp only[sx]
       repeat(refine Zq ?_;simp only[sx])
       refine Zah ?_;go_wp2;go_roundw
       case rel=>exact⟨k+1,by omega,by go_num,hbl.trans (hS.mono hzl)⟩
       case measure=>simp[intOf];omega
      ·have hkI:¬(k:Int)<ts.length:=by omega
       go_wp2;go_ret;exact⟨rfl,hbw.trans (hbl.mono hz)⟩
end Kp
theorem Zxb{H:Type}{enc:TypeId×Value→H}{k:IntKind}{base:Nat}{d:DataW H}{p:List MemPlace}(ht:P.underlying t=some (.int k))(hval:Value.okWide P W .any base t v)(h:DataW.Trod enc P W 0 (fun _=>true) true t v d p)(hw:∀n∈DataW.weights P t d,n≤reachBytes):∃n,v=.int k n∧(Lit.int k n).wf=true:=by
 obtain⟨fuel,h⟩:=h;obtain⟨n,hc,hwf⟩:=Zo0 ht H enc W fuel _ _ h hw;obtain⟨m,rfl⟩:=okWide_int ht hval;obtain rfl:m=n:=by simpa[Value.cells]using hc
 exact⟨m,rfl,hwf⟩
def Zvd : List (String × DataW Unit) := [("sheaves/blake.first", Rows.laid_sheaves_blake_first), ("sheaves/blake.order", Rows.laid_sheaves_blake_order), ("sheaves/blake.lanes", Rows.laid_sheaves_blake_lanes)]
theorem Zyt{α:Type}(sz:Nat):∀(rows:List (List α)) (cs:List α),cs.length=rows.length*sz→(∀i (hi:i<rows.length),(cs.drop (i*sz)).take sz=rows[i])→cs=rows.flatten
 |[],cs,hl,_=>by
  have:cs=[]:=List.eq_nil_of_length_eq_zero (by simpa using hl)
  rw[this];rfl
 |r::rs,cs,hl,h=>by
  have h0:=h 0 (by simp)
  simp only[Nat.zero_mul,List.drop_zero,List.getElem_cons_zero]at h0
  have h1:=Zyt sz rs (cs.drop sz) (by rw[List.length_drop,hl,List.length_cons,Nat.add_mul];omega) (fun i hi=>by
   have:=h (i+1) (by simp;omega)
   rw[List.getElem_cons_succ]at this
   rw[←this,List.drop_drop,Nat.add_mul,Nat.one_mul,Nat.add_comm])
  rw[List.flatten_cons,←h1,←h0,List.take_append_drop]
section
variable {H:Type} {enc:TypeId×Value→H} {P:Program} {w:World} {base:Nat} {sp:Nat→Bool} {held:Bool} {t e:TypeId} {n fuel:Nat} {cs:List Value} {x:DataW H×List MemPlace}
theorem Zr0{k:IntKind}(ht:P.underlying t=some (.array n e))(he:P.underlying e=some (.int k))(hc:P.cellsOf e=1)(hn:P.cellsOf t=n)(h:DataW.trod enc P w base sp held fuel t cs=some x){l:List Int}(hx:x.1=.agg (l.map fun z=>.lit (.int k z))):cs=l.map (Value.int k):=by
 obtain⟨xs,m,rfl,rfl,hlen,hxl,hel⟩:=DataW.trod_array ht h;injection hx with hx;have hll:l.length=n:=by have:=congrArg List.length hx;simp at this;omega
 refine List.ext_getElem (by rw[hlen,hn];simp[hll]) (fun i h1 h2=>?_);have hi:i<n:=by rw[hlen,hn]at h1;exact h1
 have h3:=hel i hi;rw[hc,Nat.mul_one,List.getElem?_eq_getElem (by omega)]at h3;obtain⟨z,e1,e2,_⟩:=DataW.trod_int he h3;have h4:(xs.map (·.1))[i]?=(l.map fun z=>DataW.lit (.int k z))[i]?:=by rw[hx]
 rw[List.getElem?_map,List.getElem?_map,List.getElem?_eq_getElem (by omega),List.getElem?_eq_getElem (by omega),e2]at h4;simp at h4
 have h5:(cs.drop i).take 1=[cs[i]]:=by
  rw[List.drop_eq_getElem_cons h1];rfl
 rw[h5]at e1;injection e1 with e1;rw[e1,h4];simp
theorem Zrz{e2:TypeId}{n2:Nat}{k:IntKind}(ht:P.underlying t=some (.array n e))(he:P.underlying e=some (.array n2 e2))(he2:P.underlying e2=some (.int k))(hc:P.cellsOf e2=1)(hc2:P.cellsOf e=n2)(hn:P.cellsOf t=n*n2)(h:DataW.trod enc P w base sp held fuel t cs=some x){l:List (List Int)}(hx:x.1=.agg (l.map fun r=>.agg (r.map fun z=>.lit (.int k z)))):cs=(l.map fun r=>r.map (Value.int k)).flatten:=by
 obtain⟨xs,m,rfl,rfl,hlen,hxl,hel⟩:=DataW.trod_array ht h;injection hx with hx;have hll:l.length=n:=by have:=congrArg List.length hx;simp at this;omega
 refine Zyt n2 _ _ (by rw[hlen,hn];simp[hll]) (fun i hi=>?_);have hi':i<n:=by simpa[hll]using hi
 have h3:=hel i hi';rw[hc2,List.getElem?_eq_getElem (by omega)]at h3;have h4:(xs.map (·.1))[i]?=(l.map fun r=>DataW.agg (r.map fun z=>DataW.lit (.int k z)))[i]?:=by rw[hx]
 rw[List.getElem?_map,List.getElem?_map,List.getElem?_eq_getElem (by omega),List.getElem?_eq_getElem (by omega)]at h4;simp only[Option.map_some,Option.some.injEq]at h4;rw[Zr0 he he2 hc hc2 h3 h4];simp
end
theorem gFirst : Tryz.prog.globalNamed "sheaves/blake.first" = some 0 := by kernel_rfl
theorem gOrder : Tryz.prog.globalNamed "sheaves/blake.order" = some 1 := by kernel_rfl
theorem gLanes : Tryz.prog.globalNamed "sheaves/blake.lanes" = some 2 := by kernel_rfl
theorem tFirst:(Tryz.prog.globals[0]?).map (·.type)=some 162:=by kernel_rfl
theorem tOrder:(Tryz.prog.globals[1]?).map (·.type)=some 202:=by kernel_rfl
theorem tLanes:(Tryz.prog.globals[2]?).map (·.type)=some 204:=by kernel_rfl
theorem Zlk{n:Nat}{cs:Array Value}{l:List Nat}{enc:Nat→Value}(hc:∀i,W.cell? ⟨g,i,none⟩=cs[i]?)(h:cs.toList=l.map enc)(hn:l.length=n):∀i,i<n→W.cell? ⟨g,i,none⟩=some (enc (at0 l i)):=fun i hi=>by
 rw[hc i,←Array.getElem?_toList,h,←Zgm (by omega)]
 simp[show i<l.length by omega]
theorem Zzg(h:laidMetH Tryz.prog Zvd W):Tabs W.cell?:=by
 rw[MakeChecks.laidMetH_plain _ _ _ (by kernel_rfl)]at h;obtain⟨ps,⟨g0,t0,cs0,f0,p0,q0,hg0,ht0,hv0,hd0,⟨g1,t1,cs1,f1,p1,q1,hg1,ht1,hv1,hd1,⟨g2,t2,cs2,f2,p2,q2,hg2,ht2,hv2,hd2,_,_⟩,_⟩,_⟩,_,_⟩:=h;obtain rfl:=Option.some.inj (gFirst.symm.trans hg0);obtain rfl:=Option.some.inj (gOrder.symm.trans hg1);obtain rfl:=Option.some.inj (gLanes.symm.trans hg2);obtain rfl:=Option.some.inj (tFirst.symm.trans ht0);obtain rfl:=Option.some.inj (tOrder.symm.trans ht1);obtain rfl:=Option.some.inj (tLanes.symm.trans ht2);have e0:=Zr0 (l:=Zc3.map Int.ofNat) Tryz.underlying162 Tryz.underlying161 (by kernel_rfl) (by kernel_rfl) hd0 rfl;have e1:=Zrz (l:=Zff.map fun r=>r.map Int.ofNat) Tryz.underlying202 Tryz.underlying201 Tryz.underlying3 (by kernel_rfl) (by kernel_rfl) (by kernel_rfl) hd1 rfl;have e2:=Zrz (l:=((List.range 8).map Zf1).map fun r=>r.map Int.ofNat) Tryz.underlying204 Tryz.underlying203 Tryz.underlying3 (by kernel_rfl) (by kernel_rfl) (by kernel_rfl) hd2 (by kernel_rfl);have f0:cs0.toList=Zc3.map encU:=e0;have f1:cs1.toList=Zff.flatten.map encN:=e1.trans (by kernel_rfl);have f2:cs2.toList=(((List.range 8).map Zf1).flatten).map encN:=e2.trans (by kernel_rfl);exact⟨Zlk (World.var?_cell hg0 hv0) f0 (by kernel_rfl),Zlk (World.var?_cell hg1 hv1) f1 (by kernel_rfl),Zlk (World.var?_cell hg2 hv2) f2 (by kernel_rfl)⟩
theorem Zx4(os:Os)(args:Array Value):laidMetH Tryz.prog Zvd ((World.doorLaid Tryz.prog 400 os).forCall (fun _ _=>0) ⟨#[],args,[]⟩).memory :=
 laidMetH_of_parts3 (fuel:=8) (laidMet_of_run' 8 (by kernel_rfl) (by kernel_rfl)) (by kernel_rfl) (by kernel_rfl)
namespace Fl
theorem Zwz{cs:Array Value}{O:Oc}(r:ROc h cs.toList O):∃A1 c1 A2 c2 A3 c3,cs=#[.slice A1 O.nodes.length c1,.slice A2 O.signs.length c2,.int .i64 O.away,.slice A3 O.codes.length c3]∧RSl 6 RVw 112 h (.slice A1 O.nodes.length c1) O.nodes∧RSigns h (.slice A2 O.signs.length c2) O.signs∧RIs h (.slice A3 O.codes.length c3) O.codes:=by
 obtain⟨v1,v2,v3,e,r1,r2,r3⟩:=r;obtain⟨A1,c1,rfl,_⟩:=id r1;obtain⟨A2,c2,rfl,_⟩:=id r2;obtain⟨A3,c3,rfl,_⟩:=id r3;exact⟨A1,c1,A2,c2,A3,c3,by rw[←Array.toArray_toList (xs:=cs),e],r1,r2,r3⟩
theorem RVws.at{h:View}{A:Option Addr}{n c:Nat}{xs:List Vw}(hr:RSl 6 RVw 112 h (.slice A n c) xs):n=xs.length∧∀k (hk:k<xs.length),∃b o vc vb vv vp,A=some ⟨b,o,none⟩∧h ⟨b,o+k*6,none⟩=some (.bool xs[k].up)∧h ⟨b,o+k*6+1,none⟩=some (.int .i64 xs[k].round)∧h ⟨b,o+k*6+2,none⟩=some vc∧h ⟨b,o+k*6+3,none⟩=some vb∧h ⟨b,o+k*6+4,none⟩=some vv∧h ⟨b,o+k*6+5,none⟩=some vp∧RCrts h vc xs[k].certs∧RBats h vb xs[k].bats∧RSlots h vv xs[k].votes∧RTexts h vp xs[k].pool:=by
 obtain⟨A',c',e,h1,_,h2,_,h3⟩:=hr;injection e with e1 e2 e3;subst e1 e2 e3;refine⟨rfl,fun k hk=>?_⟩;obtain⟨b,o,ea,hc⟩:=h3 (by omega);obtain⟨cs,hl,hcs,vc,vb,vv,vp,rfl,r1,r2,r3,r4⟩:=hc k hk;have c0:=hcs 0 (by omega);have c1:=hcs 1 (by omega);have c2:=hcs 2 (by omega);have c3:=hcs 3 (by omega);have c4:=hcs 4 (by omega);have c5:=hcs 5 (by omega);simp at c0 c1 c2 c3 c4 c5;exact⟨b,o,vc,vb,vv,vp,ea,c0,c1,c2,c3,c4,c5,r1,r2,r3,r4⟩
structure RanV (w w':World) (e:Ending) (rogue:Int) (l:List At):Prop where
 out:∃A1 c1 A2 n2 c2 A3 n3 c3,e=.returned (.tuple #[.agg #[.slice A1 4 c1,.slice A2 n2 c2,.int .i64 ((run rogue l).away.length:Nat),.slice A3 n3 c3],.bool true])∧Below w.heap.size w w'∧n2=(run rogue l).signs.length∧n3=(run rogue l).codes.length∧RSl 6 RVw 112 w'.cell? (.slice A1 4 c1) (Zhg (run rogue l))∧RSigns w'.cell? (.slice A2 n2 c2) (run rogue l).signs
theorem Zrj(rogue:Int)(v:Value)(l:List At)(w:World)(hr:inB rogue (-1) 3=true)(rl:RAts w.cell? v l)(ha:Acts l)(hl:l.length≤3000)(hT:Tabs w.cell?) :
 Calls Tryz.prog 14 #[.int .i64 rogue,v] w fun e w'=>RanV w w' e rogue l:=by
 refine(Zzc rogue v l w hr rl ha hl hT).mono ?_;rintro e w' ⟨cs,rfl,hb,r⟩;obtain⟨A1,c1,A2,c2,A3,c3,rfl,r1,r2,r3⟩:=Zwz r;exact⟨_,_,_,_,_,_,_,_,rfl,hb,rfl,rfl,r1.mono RVw.mono (View.from_le _ _),r2.mono RSign.mono (View.from_le _ _)⟩
theorem Zwl(hk:k<(Zhg f).length):(Zhg f)[k]=vwAt f k:=by
 have:k=0∨k=1∨k=2∨k=3:=by rw[Zes]at hk;omega
 rcases this with rfl|rfl|rfl|rfl<;>rfl
theorem Zsy:Zf4 Tryz.prog 75 (fun h cs (a:At)=>RAt h cs a∧GOk a):=by
 intro H enc w fuel cs x h hw;obtain⟨hl,hf⟩:=Zo1 Tryz.underlying75 h hw;obtain⟨a,ha,wa⟩:=hf 0 3 0 1 rfl (by kernel_rfl) Zp6;obtain⟨b,hb,wb⟩:=hf 1 3 1 1 rfl (by kernel_rfl) Zp6;obtain⟨c,hc,wc⟩:=hf 2 3 2 1 rfl (by kernel_rfl) Zp6;obtain⟨s,hd,hs⟩:=hf 3 9 3 1 rfl (by kernel_rfl) Zzf;have hl':cs.length=4:=hl.trans (by kernel_rfl);have i64:∀{n:Int},(Lit.int .i64 n).wf=true→I64 n:=fun {n} h=>by simpa[Lit.wf,IntKind.min,IntKind.max,IntKind.signed,IntKind.bits,I64]using h
 match cs,hl' with
 |[c0,c1,c2,c3],_ =>
  simp at ha hb hc hd;subst ha hb hc hd;exact⟨⟨a,b,c,s⟩,rfl,i64 wa,i64 wb,i64 wc,Zw1 hs⟩
theorem Zp7:Zf4 Tryz.prog 22 (fun h cs (xs:List At)=>∃v,cs=[v]∧RSl 4 (fun h cs (a:At)=>RAt h cs a∧GOk a) 40 h v xs) :=
 Zxa Tryz.underlying22 (by kernel_rfl) (by decide) (by kernel_rfl) Zsy
theorem Zxq{xs:List At}(r:RSl 4 (fun h cs (a:At)=>RAt h cs a∧GOk a) 40 h v xs):RAts h v xs∧∀a∈xs,GOk a:=by
 obtain⟨A,c,e,h1,h2,h3,h4,h5⟩:=r;refine⟨⟨A,c,e,h1,h2,h3,h4,fun hp=>?_⟩,fun a ha=>?_⟩
 ·obtain⟨b,o,ea,hc⟩:=h5 hp;refine⟨b,o,ea,fun i hi=>?_⟩;obtain⟨cs,q1,q2,q3⟩:=hc i hi;exact⟨cs,q1,q2,q3.1⟩
 ·obtain⟨i,hi,rfl⟩:=List.getElem_of_mem ha;obtain⟨b,o,ea,hc⟩:=h5 (by omega);obtain⟨cs,q1,q2,q3⟩:=hc i hi;exact q3.2
theorem Zsz{H:Type}{enc:TypeId×Value→H}{base:Nat}{d:DataW H}{p:List MemPlace}(hval:Value.okWide Tryz.prog W .any base 22 v)(h:DataW.Trod enc Tryz.prog W 0 (fun _=>true) true 22 v d p)(hw:∀n∈DataW.weights Tryz.prog 22 d,n≤reachBytes):∃l:List At,RAts W.cell? v l∧∀g∈l,GOk g:=by
 obtain⟨fuel,h⟩:=h;obtain⟨x,v',hc,hr⟩:=Zp7 H enc W fuel _ _ h hw;obtain⟨a,n,c,rfl⟩:=okWide_slice Tryz.underlying22 hval;obtain rfl:Value.slice a n c=v':=by simpa[Value.cells]using hc
 obtain⟨h1,h2⟩:=Zxq hr;exact⟨x,h1,h2⟩
theorem Zrm{H:Type}{enc:TypeId×Value→H}{base:Nat}{d:DataW H}{p:List MemPlace}(hval:Value.okWide Tryz.prog W .any base 3 v)(h:DataW.Trod enc Tryz.prog W 0 (fun _=>true) true 3 v d p)(hw:∀n∈DataW.weights Tryz.prog 3 d,n≤reachBytes):∃n:Int,v=.int .i64 n∧I64 n:=by
 obtain⟨n,rfl,wn⟩:=Zxb (k:=.i64) Tryz.underlying3 hval h hw;exact⟨n,rfl,by simpa[Lit.wf,IntKind.min,IntKind.max,IntKind.signed,IntKind.bits,I64]using wn⟩
end Fl
end Go.Proofs.YtinibgklgehdpaaGreatDoor
