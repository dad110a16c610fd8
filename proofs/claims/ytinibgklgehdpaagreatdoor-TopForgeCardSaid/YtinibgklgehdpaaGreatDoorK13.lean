/- A part of what the last text stands on. -/
import Derived.Laws.BitsLemmas
import Derived.Deep.DeepCutAuto
import Derived.Deep.CutBlock
import Derived.Test.YtinibgklgehdpaaGreatDoorK01
import Derived.Test.YtinibgklgehdpaaGreatDoorK03
import Derived.Test.YtinibgklgehdpaaGreatDoorK04
import Derived.Test.YtinibgklgehdpaaGreatDoorK07
import Derived.Test.YtinibgklgehdpaaGreatDoorK10
import Derived.Test.YtinibgklgehdpaaGreatDoorK11
import Derived.Test.YtinibgklgehdpaaGreatDoorK12
namespace Go.Proofs.YtinibgklgehdpaaGreatDoor
open Go.ChangeShapes Go.WideShapes Go.ChangeAt Go.RowKit Qa Qb Qc
set_option linter.all false
set_option maxHeartbeats 20000000
set_option maxRecDepth 100000
variable{w w':World}{v:Value}{cs:Array Value}{A:Option Addr}{h:View}{e:TypeId}{k g sz bs b c:Nat}{m:Msg}{α:Type}{xs:List α}{enc:α→Value}{R:View→List Value→α→Prop}
def Zba(l:List UInt8)(a:Int):Bool:=decide (0≤a∧a≤l.length∧l.length≤400000)
theorem Ze4(w:World)(o1 o2:Obj):Below w.heap.size w ((w.alloc o1).alloc o2):=((Below.refl _ _).alloc (Nat.le_refl _) _).alloc (Zau _ (Nat.le_refl _)) _
theorem Zu0(a:Int)(A:Option Addr)(c:Nat)(l:List UInt8)(w:World)(hl:l.length≤140737488355328)(hm:Zba l a=false) :
 Calls Tryz.prog 185 #[.agg #[.slice A l.length c,.int .i64 a]] w fun e w'=>e=.returned (.tuple #[.agg #[.slice none 0 0,.int .i64 0],.bool false])∧Below w.heap.size w w':=by
 have Hm:=Lib.hid hm;clear hm
 by_cases h1:a<0
 rotate_left
 by_cases h2:(l.length:Int)<a
 rotate_left
 have h3:400000<l.length:=by have:=Hm.out;simp[Zba]at this;omega
 all_goals
  go_enter Tryz.func185,Tryz.ntmps185
  go_wp2;refine bodyPost_ret (v:=.tuple #[.agg #[.slice none 0 0,.int .i64 0],.bool false]) (by simp[results,Tryz.results185,go_sem]) rfl ⟨rfl,?_⟩;exact Ze4 _ _ _
theorem Zh6(a:Int)(v:Value)(l:List UInt8)(w:World)(hv:Zao w.cell? v l)(hm:Zba l a=true) :
 Calls Tryz.prog 185 #[.agg #[v,.int .i64 a]] w fun e w'=>∃d,e=.returned (.tuple #[.agg #[d,.int .i64 a],.bool true])∧Below w.heap.size w w'∧OwnB w' w.heap.size d l:=by
 have Hm:0≤a∧a≤l.length∧l.length≤400000:=by simpa[Zba]using hm
 obtain⟨m1,m2,m3⟩:=Hm;clear hm;obtain⟨A,c,rfl,_⟩:=id hv
 go_enter Tryz.func185,Tryz.ntmps185
 go_wp2;refine Za6 _ _ _ _ _ (fun W=>(Code.region _ _ _).wp _ _ _ W) (fun W hb1 hb2 hsz hbl=>?_);have hd1:=hv.below_but hbl (Nat.le_succ _)
 refine Zcg (fun w'=>W.grownBy w' (some (w.heap.size+1))∧∃cs,Blk w' (w.heap.size+1) 113 cs∧cs.size=2) [(0,true),(1,true),(3,true),(4,true),(2,false),(5,true),(6,false),(7,true)] (by kernel_rfl) (by kernel_rfl) (fun _ _ d _ _ h=>by cases d<;>exact h) rfl (by kernel_rfl) ?_ ?_
 ·exact⟨Zcd _ _,_,hb2,rfl⟩
 intro W1 hS1
 repeat((first|refine Zbc rfl rfl ⟨_,fun w' hS=>by(have hq:=hb1.grown hS.1 (by simp);have h0:=hq.cell 0;have h1:=hq.cell 1;simp at h0 h1;go_simp;exact rfl),?_⟩|refine Zbh (by assumption) rfl rfl ?_);simp only[sx])
 refine Zd0 rfl rfl fun K hK=>?_
 try simp only[sy]
 go_simp;obtain⟨hg1,cs,hc,hcs⟩:=hS1;refine(Zci _ _ _ (hd1.mono (Zbn hg1))).mono ?_;rintro e w1 ⟨d',rfl,hj,hown⟩;obtain⟨A',c',rfl⟩:=hown.form;refine hK.out _ _ (⟨Zaf hg1 (Zak _ hj),_,hc.kept hj,hcs⟩) fun hS=>?_
 clear hK K
 try simp only[sx]
 repeat((first|refine Zbc rfl rfl ⟨_,fun w' hS=>by(have hq:=hb1.grown hS.1 (by simp);have h0:=hq.cell 0;have h1:=hq.cell 1;simp at h0 h1;go_simp;exact rfl),?_⟩|refine Zbh (by assumption) rfl rfl ?_);simp only[sx])
 refine Zd0 rfl rfl fun K hK=>?_
 try simp only[sy]
 refine Zc0 rfl rfl rfl (n:=2) (by kernel_rfl) rfl (hc.kept hj) hcs rfl ?_;intro w2 hb3 hg;have hsz1:=hg1.size;refine hK.out _ _ (⟨Zaf hS.1 hg,_,hb3,rfl⟩) fun hS=>?_
 clear hK K
 try simp only[sx]
 repeat((first|refine Zbc rfl rfl ⟨_,fun w' hS=>by(skip;go_simp;exact rfl),?_⟩|refine Zbh (by assumption) rfl rfl ?_);simp only[sx])
 refine Zen ?_;go_wp2;refine bodyPost_ret (Zal rfl rfl (by kernel_rfl) (by kernel_rfl) hb3 rfl) rfl ?_;have hA:=Zab (B:=w.heap.size) hbl (by omega) (Zaf (Zaf hg1 (Zak _ hj)) hg) (fun k e=>by injection e;omega);exact⟨_,rfl,hA,(hown.grown hg (by omega)).base (by omega)⟩
theorem Zwu(a:Int)(v:Value)(l:List UInt8)(w:World)(hv:Zao w.cell? v l)(hm:Zba l a=true) :
 Calls Tryz.prog 160 #[.agg #[v,.int .i64 a]] w fun e w'=>∃d,e=.returned (.tuple #[.agg #[d,.int .i64 l.length],.int .i64 0])∧Below w.heap.size w w'∧OwnB w' w.heap.size d l:=by
 have hl:l.length≤400000:=by simp[Zba]at hm;omega
 go_enter Tryz.func160,Tryz.ntmps160
 go_wp2_with fail
 refine(Zh6 _ _ _ _ (hv.mono (Zaa (Ze4 _ _ _))) hm).mono ?_;rintro e w1 ⟨d,rfl,hb1,ho⟩;obtain⟨A,c,rfl⟩:=ho.form;have ho':OwnB w1 (w.heap.size+2) _ l:=ho.base (by simp);obtain⟨hc,hf⟩:=Zyi hb1;have hz:w.heap.size+1<w1.heap.size:=by have:=hb1.size;simp at this;omega
 have hbw:Below w.heap.size w w1:=(Ze4 _ _ _).trans (hb1.mono (by simp;omega));go_wp2;refine bodyPost_ret (v:=.tuple #[.agg #[.slice A l.length c,.int .i64 l.length],.int .i64 0]) (by simp[results,Tryz.results160,go_sem,hc,hf,hz]) rfl ⟨_,rfl,?_,?_⟩
 ·repeat(first
   |assumption
   |exact Below.refl _ _
   |refine Below.drew ?_
   |(refine Below.alloc ?_ ?sa _;(case sa=>first|omega|(simp;done)|(simp;omega)))
   |(refine Below.setCell ?_ ?sa _;(case sa=>first|(dsimp only;omega)|(simp;done)|(simp;omega))))
 ·refine OwnVec.base (b:=w.heap.size+2) ?_ (by omega)
  repeat(first
   |assumption
   |refine OwnVec.drew ?_
   |refine OwnVec.alloc ?_ _
   |(refine OwnVec.setCell ?_ ?sa _;(case sa=>first|(dsimp only;omega)|(simp;done)|(simp;omega))))
def appF(m:Msg):List UInt8:=[Zar ((msgB m).length/256:Nat),Zar ((msgB m).length:Nat)]++msgB m
def appE(l:List UInt8)(a:Int)(m:Msg):Int:=if Zba l a then(if recF m≠0 then recF m else if 400000<l.length+2+(msgB m).length then 6 else 0)else 12
def appL(l:List UInt8)(a:Int)(m:Msg):List UInt8:=if appE l a m=0 then l++appF m else []
def appA(l:List UInt8)(a:Int)(m:Msg):Int:=if appE l a m=0 then a else 0
theorem Znc(w:World)(c1 c2 c3:Array Value)(t1 t2 t3:TypeId)(R:World→Prop)(h:∀W,Blk W w.heap.size t1 c1→Blk W (w.heap.size+1) t2 c2→Blk W (w.heap.size+2) t3 c3→w.heap.size+3≤W.heap.size→Below w.heap.size w W→R W):R (((w.alloc (.cells c1 t1)).alloc (.cells c2 t2)).alloc (.cells c3 t3)):=by
 refine h _ (((Blk.new w t1 c1).alloc _).alloc _) ?_ ?_ (by simp) ((((Below.refl _ _).alloc (Nat.le_refl _) _).alloc (Zau _ (Nat.le_refl _)) _).alloc (Zau _ (Zau _ (Nat.le_refl _))) _)
 ·have:=(Blk.new (w.alloc (.cells c1 t1)) t2 c2).alloc (.cells c3 t3);simpa using this
 ·have:=Blk.new ((w.alloc (.cells c1 t1)).alloc (.cells c2 t2)) t3 c3;simpa using this
theorem Zlw{row:Option Nat}(hg:w.grownBy w' row)(hr:∀q,row=some q→q<b):VLe (View.from w.cell? b) w'.cell?:=fun a u hu=>by
 unfold View.from at hu
 split at hu
 ·cases hu
 ·rename_i hne
  exact hg.cell hu (by intro e;have:=hr _ e.symm;omega)
theorem ne_own{B:Nat}{xs:List UInt8}(ho:OwnB w B v xs){T:TypeId}(hT:T≠5)(hb:Blk w g T cs):¬(v.ownBlock=some g):=fun e=>by
 rcases ho.own.2 with ⟨rfl,_⟩|⟨g',cap,cur,rfl,_,h3,_⟩
 ·cases e
 ·have e1:g'=g:=by simpa[Value.ownBlock]using e
  subst e1
  unfold Blk at hb
  rw[h3]at hb
  injection hb with hb
  injection hb with _ hb
  exact hT hb.symm
theorem Zy9(h:recF m=0):msgF m=0:=by
 unfold recF at h;split at h
 ·rename_i h1;exact absurd h h1
 ·rename_i h1;exact Classical.not_not.1 h1
theorem msgB_len(h:msgF m=0):(msgB m).length≤400:=by
 unfold msgB Zdl
 rcases(msgF_zero h).1 with hk|hk|hk|hk|hk
 ·obtain⟨q0,q1,q2⟩:=batchF_zero (Zyx hk h);simp only[hk,if_true,List.length_append,List.length_cons,List.length_nil,batchB_len];omega
 ·obtain⟨q0,q1,q2,q3⟩:=headF_zero (Zyw hk h);rw[if_neg (by omega),if_pos hk];simp only[List.length_append,List.length_cons,List.length_nil,headerB_len];omega
 ·obtain⟨q0,q1,q2⟩:=slotF_zero (Zyv hk h);rw[if_neg (by omega),if_neg (by omega),if_pos hk];simp only[List.length_append,List.length_cons,List.length_nil,Zb9];omega
 ·obtain⟨q0,q1,q2,q3,q4,q5,q6⟩:=certF_zero (Zyu hk h);rw[if_neg (by omega),if_neg (by omega),if_neg (by omega),if_pos hk];simp only[List.length_append,List.length_cons,List.length_nil,headerB_len,List.length_map];omega
 ·rw[if_neg (by omega),if_neg (by omega),if_neg (by omega),if_neg (by omega)];simp only[List.length_append,List.length_cons,List.length_nil,Zb9];omega
theorem Zm1(a:Int)(v:Value)(l:List UInt8)(m:Msg)(vt vb vp vd cb cp cv:Value)(w:World)(hv:Zao w.cell? v l)(r:RMsg w.cell? m vt vb vp vd cb cp cv)(hs:∀s∈m.bat.txs,s.size≤140737488355328) :
 Calls Tryz.prog 172 #[.agg #[v,.int .i64 a],.agg (msgC m vt vb vp vd cb cp cv)] w fun e w'=>∃d,e=.returned (.tuple #[.agg #[d,.int .i64 (appA l a m)],.int .i64 (appE l a m)])∧Below w.heap.size w w'∧Zao (View.from w'.cell? w.heap.size) d (appL l a m):=by
 obtain⟨A,c,rfl,hform⟩:=id hv;have hl1:l.length≤140737488355328:=by omega
 clear hform;obtain⟨⟨tA,tc,rfl⟩,⟨bA,bc,rfl⟩,⟨pA,pc,rfl⟩,⟨dA,dc,rfl⟩,⟨cA,cc,rfl⟩,⟨qA,qc,rfl⟩,⟨vA,vc,rfl⟩⟩:=r.forms;have hE0:Hid (appE l a m=if Zba l a then(if recF m≠0 then recF m else if 400000<l.length+2+(msgB m).length then 6 else 0)else 12):=rfl;have hA0:Hid (appA l a m=if appE l a m=0 then a else 0):=rfl;have hL0:Hid (appL l a m=if appE l a m=0 then l++appF m else []):=rfl;obtain⟨QE,hQE⟩:∃q,Hid (appE l a m=q):=⟨_,rfl⟩;obtain⟨QA,hQA⟩:∃q,Hid (appA l a m=q):=⟨_,rfl⟩;obtain⟨QL,hQL⟩:∃q,Hid (appL l a m=q):=⟨_,rfl⟩;rw[hQE.out,hQA.out,hQL.out];rw[hQE.out]at hE0 hA0 hL0;rw[hQA.out]at hA0;rw[hQL.out]at hL0;have Hv:=Lib.hid hv;have Hs:=Lib.hid hs;clear hQE hQA hQL hv hs;unfold msgC
 go_enter Tryz.func172,Tryz.ntmps172
 go_upto_region 1 with fail
 refine Znc _ _ _ _ _ _ _ (fun W=>Code.wp _ _ _ _ W) (fun W hk1 hk2 hk3 hsz hbl=>?_);have hz:=hbl.size;have rW:=r.mono (Zaa hbl);have g0:=hk1.cell 0;have g1:=hk1.cell 1;simp at g0 g1;clear r;cases hm:Zba l a
 ·have HE:Hid (QE=12):=by show _=_;rw[hE0.out,hm];rfl
  have HA:Hid (QA=0):=by show _=_;rw[hA0.out,HE.out];rfl
  have HL:Hid (QL=[]):=by show _=_;rw[hL0.out,HE.out];rfl
  go_wp2_with fail
  refine(Zu0 _ _ _ _ _ hl1 hm).mono ?_;rintro e w1 ⟨rfl,hb1⟩;have hk31:=hk3.kept hb1;have hbl1:=hbl.trans (hb1.mono hz);have hz1:=hbl1.size
  go_wp2_with (refine Zj 2 (hk31.alloc _) ?_)
  intro w2 hB2 hg2;go_wp2;refine bodyPost_ret (Zal rfl rfl (by kernel_rfl) (by kernel_rfl) hB2 rfl) rfl ?_;exact⟨_,by rw[HE.out,HA.out];rfl,Zab (hbl1.alloc hz1 _) (Zau _ hz1) hg2 (by intro k e;injection e;omega),by rw[HL.out];exact RVec.nil _ _ _⟩
 ·have Hm:=Lib.hid hm;have hE1:Hid (QE=if recF m≠0 then recF m else if 400000<l.length+2+(msgB m).length then 6 else 0):=by show _=_;rw[hE0.out,hm];rfl
  have hl4:l.length≤400000:=by simp[Zba]at hm;omega
  clear hm hE0
  go_wp2_with fail
  refine(Zh6 _ _ l _ (Hv.out.mono (Zaa hbl)) Hm.out).mono ?_;rintro e w1 ⟨d1,rfl,hb1,o1⟩;obtain⟨A1,c1,rfl⟩:=o1.form;have hk21:=hk2.kept hb1;have hk31:=hk3.kept hb1;have hbl1:=hbl.trans (hb1.mono hz);have hz1:=hbl1.size;have hzz1:=hb1.size;clear g0 g1 hk1
  go_upto_region 4 with fail
  refine Zo fun W6 h6 hs6 hb6=>?_
  clear hs6;have hz6:w.heap.size≤W6.heap.size:=Nat.le_trans hz1 hb6.size;have hzW6:W.heap.size≤W6.heap.size:=Nat.le_trans hzz1 hb6.size;have hbl6:=hbl1.trans (hb6.mono hz1);have o6:=o1.kept hb6;have hk26:=hk21.kept hb6;have hk36:=hk31.kept hb6;have r6:=(rW.mono (Zaa hb1)).mono (Zaa hb6);clear o1 hk21 hk31 hb1 hb6 rW
  go_wp2_with (refine wpList_load_row rfl 66 _ rfl _ rfl _ _ _ _ hk26 Tryz.underlying66 rfl (by kernel_rfl) ?_)
  refine(Zhw m _ _ _ _ _ _ _ _ r6 Hs.out).mono ?_;rintro e w7 ⟨rfl,hb7⟩;have hbl7:=hbl6.trans (hb7.mono hz6);have hz7:=hbl7.size;have hzW7:=Nat.le_trans hzW6 hb7.size;have h67:=h6.kept hb7;have o7:=o6.kept hb7;have hk27:=hk26.kept hb7;have hk37:=hk36.kept hb7;have r7:=r6.mono (Zaa hb7);clear o6 hk26 hk36 h6 r6;obtain⟨RF,hRF⟩:∃q,Hid (recF m=q):=⟨_,rfl⟩;rw[hRF.out];rw[hRF.out]at hE1
  by_cases hr0:RF=0
  ·have hM0:=Lib.hid (Zy9 (hRF.out.trans hr0));have HB:=Lib.hid (msgB_len hM0.out);have hE2:Hid (QE=if 400000<l.length+2+(msgB m).length then 6 else 0):=by show _=_;rw[hE1.out,hr0];rfl
   clear hE1 hRF;subst hr0
   go_wp2_with (refine wpList_load_row rfl 66 _ rfl _ rfl _ _ _ _ hk27 Tryz.underlying66 rfl (by kernel_rfl) ?_)
   refine(Zmu m _ _ _ _ _ _ _ _ r7 Hs.out).mono ?_;rintro e w8 ⟨d2,rfl,hb8,hr8⟩;rw[hM0.out];have hbl8:=hbl7.trans (hb8.mono hz7);have hz8:=hbl8.size;have hzW8:=Nat.le_trans hzW7 hb8.size;have h68:=h67.kept hb8;have o8:=o7.kept hb8;have hk38:=hk37.kept hb8;have hF:Hid (appF m=[Zar ((msgB m).length/256:Nat),Zar ((msgB m).length:Nat)]++msgB m):=rfl;have hrow:=fun q hq=>(o7.own.lt q hq).2
   rw[show Zqa m=msgB m from if_pos hM0.out]at hr8;clear o7 hk27 hk37 h67 r7;generalize appF m=F at hF hL0;generalize msgB m=B at HB hE2 hF hr8;have hBl:=HB.out;obtain⟨B2,c2,rfl,hf2⟩:=id hr8;clear hf2;have e1:=Zaw ((B.length/256:Nat):Int);have e2:=Zaw (B.length:Nat);generalize Zar ((B.length/256:Nat):Int)=U1 at e1 hF;generalize Zar (B.length:Nat)=U2 at e2 hF;obtain⟨nb,hnb⟩:∃n,Hid (B.length=n):=⟨_,rfl⟩;obtain⟨nl,hnl⟩:∃n,Hid (l.length=n):=⟨_,rfl⟩;rw[hnb.out]at e1 e2 hE2 hBl hr8⊢;have hg60:=h68.cell 0;have hg61:=h68.cell 1;simp at hg60 hg61
   by_cases hfull:400000<l.length+2+nb
   ·have HE:Hid (QE=6):=by show _=_;rw[hE2.out,if_pos hfull]
    have HA:Hid (QA=0):=by show _=_;rw[hA0.out,HE.out];rfl
    have HL:Hid (QL=[]):=by show _=_;rw[hL0.out,HE.out];rfl
    have hfull':(400000:Int)<l.length+2+nb:=by omega
    clear hE2 hA0 hL0 e1 e2 o8
    go_wp2_with (refine Zj 2 hk38 ?_)
    intro w9 hB9 hg9;go_wp2;refine bodyPost_ret (Zal rfl rfl (by kernel_rfl) (by kernel_rfl) hB9 rfl) rfl ?_;exact⟨_,by rw[HE.out,HA.out];rfl,Zab hbl8 hz8 hg9 (by intro k e;injection e;omega),by rw[HL.out];exact RVec.nil _ _ _⟩
   ·have HE:Hid (QE=0):=by show _=_;rw[hE2.out,if_neg hfull]
    have HA:Hid (QA=a):=by show _=_;rw[hA0.out,HE.out];rfl
    have HL:Hid (QL=l++F):=by show _=_;rw[hL0.out,HE.out];rfl
    have hfull':¬(400000:Int)<l.length+2+nb:=by omega
    clear hE2 hA0 hL0;have e1':IntKind.u8.wrap ((nb:Int)/256)=(U1.toNat:Int):=by rw[←e1];congr 1
    have hob:W.heap.size≤w8.heap.size:=hzW8
    go_wp2_with (at_builtin;first
     |(refine Zcf (n:=140737488355328) (xs:=l) (ys:=[U1,U2]) Za9 Zb8 _ _ rfl rfl rfl (o8.alloc _) (Zau _ hob) rfl (Zn6 (xs:=[U1,U2]) (Blk.new _ _ _) (by simp) (by simp)) (by decide) (by simp;omega) (by simp;omega) ?_))
    intro v9 w9 o9 hg9 hloc9;clear hloc9;have hk9:=(Zcp w8 (.cells #[encB U1,encB U2] 5)).trans (Zat (o8.alloc _) hg9);have hb89:Below W.heap.size w8 w9:=((Below.refl _ _).alloc hob _).grown hg9 (Zau _ hob) (fun g hg=>(o8.own.lt g hg).1);have h69:=hk9 _ _ _ (by decide) h68;have hk39:=hk9 _ _ _ (by decide) hk38;have hg9':w8.grownBy w9 (Value.slice A1 l.length c1).ownBlock:=Zaf (World.grownBy_alloc w8 _ _) hg9;have r9:Zao w9.cell? (.slice B2 nb c2) B:=hr8.mono (Zlw hg9' hrow);have hz9:W.heap.size≤w9.heap.size:=Nat.le_trans hob hb89.size;clear hr8 hg9 hg9' hrow h68 hk38 hk9 o8 hg60 hg61;have hlU:(l++[U1,U2]).length=l.length+2:=by simp
    go_wp2_with (at_builtin;first
     |(refine Zcf (n:=140737488355328) (xs:=l++[U1,U2]) (ys:=B) Za9 Zb8 _ _ rfl rfl rfl o9 hz9 rfl r9 (by decide) (by rw[hlU,hnb.out];omega) (by rw[hlU,hnb.out];omega) ?_))
    intro v10 w10 o10 hg10 hloc10;clear hloc10;have hk10:=Zat o9 hg10;have hb910:Below W.heap.size w9 w10:=(Below.refl _ _).grown hg10 hz9 (fun g hg=>(o9.own.lt g hg).1);have h610:=hk10 _ _ _ (by decide) h69;have hk310:=hk10 _ _ _ (by decide) hk39;have o10:OwnB w10 W.heap.size v10 QL:=by rw[HL.out,hF.out];simpa using o10
    have hb10:Below w.heap.size w w10:=(hbl8.trans (hb89.mono (by omega))).trans (hb910.mono (by omega));have hQl:QL.length≤400002:=by rw[HL.out,hF.out];simp only[List.length_append,List.length_cons,List.length_nil];rw[hnb.out];omega
    obtain⟨A10,c10,rfl⟩:=o10.form;clear o9 hg10 r9 h69 hk39 hk10;have hz10:W.heap.size≤w10.heap.size:=Nat.le_trans hz9 hb910.size
    go_wp2_with (refine Zai (n:=1) rfl rfl rfl rfl (by kernel_rfl) rfl h610 (by simp) rfl ?_)
    intro w11 hB11 hg11;have hB11:Blk w11 w1.heap.size 113 #[.slice A10 QL.length c10,.int .i64 a]:=hB11;have hk311:=hk310.grown hg11 (by simp;omega);have o11:OwnB w11 W.heap.size (.slice A10 QL.length c10) QL:=⟨o10.own.kept hg11 (.inr (ne_own o10 (by decide) h610))⟩;have hb11:Below w.heap.size w w11:=Zab hb10 (by omega) hg11 (by intro k e;injection e;omega);clear hg11 h610 hk310 o10;have f0:=hB11.cell 0;have f1:=hB11.cell 1;simp at f0 f1;have hz11:=hb11.size
    go_wp2_with (refine Zj 2 hk311 ?_)
    intro w12 hB12 hg12;have o12:=o11.grown hg12 (by omega);go_wp2;refine bodyPost_ret (Zal rfl rfl (by kernel_rfl) (by kernel_rfl) hB12 rfl) rfl ?_;exact⟨_,by rw[HE.out,HA.out];rfl,Zab hb11 hz11 hg12 (by intro k e;injection e;omega),o12.from_ (bs:=1) (by omega) hz⟩
  ·have HE:Hid (QE=RF):=by show _=_;rw[hE1.out,if_pos hr0]
   have HA:Hid (QA=0):=by show _=_;rw[hA0.out,HE.out,if_neg hr0]
   have HL:Hid (QL=[]):=by show _=_;rw[hL0.out,HE.out,if_neg hr0]
   clear hA0 hL0 hE1 hRF o7 hk27 r7
   go_wp2_with (refine Zj 2 hk37 ?_)
   intro w8 hB8 hg8;go_wp2;refine bodyPost_ret (Zal rfl rfl (by kernel_rfl) (by kernel_rfl) hB8 rfl) rfl ?_;exact⟨_,by rw[HE.out,HA.out];rfl,Zab hbl7 hz7 hg8 (by intro k e;injection e;omega),by rw[HL.out];exact RVec.nil _ _ _⟩
theorem RVec.cut{n:Nat}(hr:RVec enc bs h (.slice A n c) xs){m:Nat}(hk:k≤xs.length)(hkm:k≤m)(hm:m≤c):RVec enc bs h (.slice A k m) (xs.take k):=by
 obtain⟨A',c',e,h1,h2,h3,h4,h5⟩:=hr.take hk;injection e with e1 e2 e3;subst e1 e3;exact⟨A,m,by rw[←e2],by omega,Nat.le_trans hm h2,h3,fun hA=>by have:=h4 hA;omega,h5⟩
def Zds(a keep:Int)(n:Nat):Nat:=(if keep<n-a then a+keep else n).toNat
theorem Zvt(a keep:Nat)(v:Value)(l:List UInt8)(w:World)(hv:Zao w.cell? v l)(hm:Zba l a=true)(hk:(keep:Int)≤9223372036854775807) :
 Calls Tryz.prog 162 #[.agg #[v,.int .i64 a],.int .i64 keep] w fun e w'=>∃d,e=.returned (.tuple #[.agg #[d,.int .i64 (Zds a keep l.length)],.int .i64 0])∧Below w.heap.size w w'∧Zao w'.cell? d (l.take (Zds a keep l.length)):=by
 have hm':a≤l.length∧l.length≤400000:=by simp[Zba]at hm;omega
 obtain⟨hal,hl⟩:=hm';have Hk:=Lib.hid hk;have Hq:∀m:Nat,Zds a keep l.length=m→Hid (Zds a keep l.length=m):=fun _ h=>h
 clear hk
 by_cases hlt:(keep:Int)≤l.length-a
 ·have Hn:=Hq (a+keep) (by simp only[Zds];split<;>omega)
  have hle:a+keep≤l.length:=by omega
  go_enter Tryz.func162,Tryz.ntmps162
  go_wp2_with fail
  refine(Zh6 _ _ _ _ (hv.mono (Zaa (Ze4 _ _ _))) hm).mono ?_;rintro e w1 ⟨d,rfl,hb1,ho⟩;have r1:=ho.reads (bs:=1) (by omega);obtain⟨A,c,rfl,hlc,hcm,_⟩:=id r1;obtain⟨hc,hf⟩:=Zyi hb1;have hz:w.heap.size+1<w1.heap.size:=by have:=hb1.size;simp at this;omega
  have hbw:Below w.heap.size w w1:=(Ze4 _ _ _).trans (hb1.mono (by simp;omega));clear Hq;have Ho:=Lib.hid ho;clear r1 ho;have q0:(0:Int)≤(a:Int)+(keep:Int):=by omega
  have q1:(a:Int)+(keep:Int)≤(c:Int):=by omega
  have qn:((a:Int)+(keep:Int)).toNat=a+keep:=by omega
  go_wp2;have ho:OwnB w1 (w.heap.size+2) (.slice A l.length c) l:=Ho.out.base (by simp);refine bodyPost_ret (v:=.tuple #[.agg #[.slice A (a+keep) (a+keep),.int .i64 ((a:Int)+(keep:Int))],.int .i64 0]) (by simp[results,Tryz.results162,go_sem,hc,hf,hz]) rfl ⟨_,by rw[Hn.out];try rfl,?_,?_⟩
  ·repeat(first
    |assumption
    |exact Below.refl _ _
    |refine Below.drew ?_
    |(refine Below.alloc ?_ ?sa _;(case sa=>first|omega|(simp;done)|(simp;omega)))
    |(refine Below.setCell ?_ ?sa _;(case sa=>first|(dsimp only;omega)|(simp;done)|(simp;omega))))
  ·rw[Hn.out];refine RVec.cut (n:=l.length) (c:=c) (xs:=l) ?_ (by omega) (Nat.le_refl _) (by omega);refine OwnVec.reads (base:=w.heap.size) (e:=5) ?_ (by omega);refine OwnVec.base (b:=w.heap.size+2) ?_ (by omega)
   repeat(first
    |assumption
    |refine OwnVec.drew ?_
    |refine OwnVec.alloc ?_ _
    |(refine OwnVec.setCell ?_ ?sa _;(case sa=>first|(dsimp only;omega)|(simp;done)|(simp;omega))))
 ·have Hn:=Hq l.length (by simp only[Zds];split<;>omega)
  go_enter Tryz.func162,Tryz.ntmps162
  go_wp2_with fail
  refine(Zh6 _ _ _ _ (hv.mono (Zaa (Ze4 _ _ _))) hm).mono ?_;rintro e w1 ⟨d,rfl,hb1,ho⟩;have r1:=ho.reads (bs:=1) (by omega);obtain⟨A,c,rfl,hlc,hcm,_⟩:=id r1;obtain⟨hc,hf⟩:=Zyi hb1;have hz:w.heap.size+1<w1.heap.size:=by have:=hb1.size;simp at this;omega
  have hbw:Below w.heap.size w w1:=(Ze4 _ _ _).trans (hb1.mono (by simp;omega));clear Hq;have Ho:=Lib.hid ho;clear r1 ho;have q2:(a:Int)+((l.length:Int)-(a:Int))=(l.length:Int):=by omega
  have q3:((l.length:Int)-(a:Int))<(keep:Int):=by omega
  go_wp2;have ho:OwnB w1 (w.heap.size+2) (.slice A l.length c) l:=Ho.out.base (by simp);refine bodyPost_ret (v:=.tuple #[.agg #[.slice A l.length l.length,.int .i64 ((l.length:Int))],.int .i64 0]) (by simp[results,Tryz.results162,go_sem,hc,hf,hz]) rfl ⟨_,by rw[Hn.out];try rfl,?_,?_⟩
  ·repeat(first
    |assumption
    |exact Below.refl _ _
    |refine Below.drew ?_
    |(refine Below.alloc ?_ ?sa _;(case sa=>first|omega|(simp;done)|(simp;omega)))
    |(refine Below.setCell ?_ ?sa _;(case sa=>first|(dsimp only;omega)|(simp;done)|(simp;omega))))
  ·rw[Hn.out];refine RVec.cut (n:=l.length) (c:=c) (xs:=l) ?_ (by omega) (Nat.le_refl _) (by omega);refine OwnVec.reads (base:=w.heap.size) (e:=5) ?_ (by omega);refine OwnVec.base (b:=w.heap.size+2) ?_ (by omega)
   repeat(first
    |assumption
    |refine OwnVec.drew ?_
    |refine OwnVec.alloc ?_ _
    |(refine OwnVec.setCell ?_ ?sa _;(case sa=>first|(dsimp only;omega)|(simp;done)|(simp;omega))))
abbrev RS:=List UInt8×Bool
def tkB(n:Nat)(s:RS):List UInt8:=if s.2||decide (s.1.length<n)then []else s.1.take n
def tkS(n:Nat)(s:RS):RS:=if s.2||decide (s.1.length<n)then(s.1,true)else(s.1.drop n,false)
def beN(b:List UInt8):Nat:=b.foldl (fun a x=>a*256+x.toNat) 0
def nmV(n:Nat)(s:RS):Nat:=beN (tkB n s)
def it{α:Type}(f:α→α):Nat→α→α
 |0,a=>a
 |n+1,a=>f (it f n a)
def Zg3(p:List ByteArray×RS):List ByteArray×RS:=if p.2.2 then p else(p.1++[bstr (tkB (nmV 1 p.2) (tkS 1 p.2))],tkS (nmV 1 p.2) (tkS 1 p.2))
def Zkg(p:List (List UInt8)×RS):List (List UInt8)×RS:=if p.2.2 then p else(p.1++[tkB 32 p.2],tkS 32 p.2)
def Zkf(p:List Int×RS):List Int×RS:=if p.2.2 then p else(p.1++[(nmV 1 p.2:Int)],tkS 1 p.2)
def txsR(s:RS):List ByteArray×RS:=it Zg3 (nmV 1 s) ([],tkS 1 s)
def Zjr(s:RS):List (List UInt8)×RS:=it Zkg (nmV 1 s) ([],tkS 1 s)
def Zt3(s:RS):List Int×RS:=it Zkf (nmV 1 s) ([],tkS 1 s)
def batR(s:RS):Bat×RS:=(⟨nmV 1 s,nmV 3 (tkS 1 s),(txsR (tkS 3 (tkS 1 s))).1⟩,(txsR (tkS 3 (tkS 1 s))).2)
def hdrR(s:RS):Hdr×RS:=(⟨nmV 1 s,nmV 3 (tkS 1 s),(Zjr (tkS 3 (tkS 1 s))).1,(Zjr (Zjr (tkS 3 (tkS 1 s))).2).1⟩,(Zjr (Zjr (tkS 3 (tkS 1 s))).2).2)
def sltR(s:RS):Slot×RS:=(⟨nmV 1 s,nmV 3 (tkS 1 s),tkB 32 (tkS 3 (tkS 1 s))⟩,tkS 32 (tkS 3 (tkS 1 s)))
def crtR(s:RS):Crt×RS:=(⟨(hdrR s).1,(Zt3 (hdrR s).2).1⟩,(Zt3 (hdrR s).2).2)
def bat0:Bat:=⟨0,0,[]⟩
def hdr0:Hdr:=⟨0,0,[],[]⟩
def slt0:Slot:=⟨0,0,[]⟩
def crt0:Crt:=⟨hdr0,[]⟩
def msg0:Msg:=⟨0,0,0,bat0,hdr0,slt0,crt0,0⟩
def bodR(src dst kind:Int)(s:RS):Msg×RS :=
 if kind=1 then(⟨src,dst,kind,(batR s).1,hdr0,slt0,crt0,0⟩,(batR s).2)
 else if kind=2 then(⟨src,dst,kind,bat0,(hdrR s).1,slt0,crt0,0⟩,(hdrR s).2)
 else if kind=3 then(⟨src,dst,kind,bat0,hdr0,(sltR s).1,crt0,0⟩,(sltR s).2)
 else if kind=4 then(⟨src,dst,kind,bat0,hdr0,slt0,(crtR s).1,0⟩,(crtR s).2)
 else if kind=5 then(⟨src,dst,kind,bat0,hdr0,slt0,crt0,nmV 3 s⟩,tkS 3 s)
 else(⟨src,dst,kind,bat0,hdr0,slt0,crt0,0⟩,s)
def msgR(b:List UInt8):Msg×RS:=bodR (nmV 1 (tkS 1 (b,false))) (nmV 1 (tkS 1 (tkS 1 (b,false)))) (nmV 1 (b,false)) (tkS 1 (tkS 1 (tkS 1 (b,false))))
def decE(b:List UInt8):Int :=
 if 4000<b.length then 1 else if b.length=0 then 5 else if nmV 1 (b,false)<1∨5<nmV 1 (b,false)then 3
 else if (msgR b).2.2 then 5 else if 0<(msgR b).2.1.length then 4 else msgF (msgR b).1
def decM(b:List UInt8):Msg:=if decE b=0 then(msgR b).1 else msg0
theorem Znt{α:Type}{f:α→α}{a:α}:∀{k n:Nat},k≤n→f (it f k a)=it f k a→it f n a=it f k a
 |k,0,h,_=>by rw[Nat.le_zero.1 h]
 |k,n+1,h,hf=>by
  by_cases e:k=n+1
  ·rw[e]
  ·show f (it f n a)=_
   rw[Znt (show k≤n by omega) hf,hf]
theorem Zyg(b:List UInt8)(x:UInt8):beN (b++[x])=beN b*256+x.toNat:=by unfold beN;rw[List.foldl_append];rfl
theorem Zyh(b:List UInt8):∀a:Nat,b.foldl (fun a x=>a*256+x.toNat) a<(a+1)*256^b.length:=by
 induction b with
 |nil=>intro a;simp
 |cons x b ih =>
  intro a;have h1:=ih (a*256+x.toNat);have hx:=x.toNat_lt;rw[List.foldl_cons,List.length_cons,Nat.pow_succ];refine Nat.lt_of_lt_of_le h1 ?_;rw[Nat.mul_comm (256^b.length) 256,←Nat.mul_assoc];exact Nat.mul_le_mul_right _ (by omega)
theorem Zyy(b:List UInt8):beN b<256^b.length:=by
 have:=Zyh b 0;simpa[beN]using this
theorem Zna(n:Nat)(s:RS):(tkB n s).length≤n:=by
 unfold tkB;split
 ·exact Nat.zero_le _
 ·simp;omega
theorem Zo2(n:Nat)(s:RS):nmV n s<256^n:=by
 have h1:=Zyy (tkB n s);have h2:256^(tkB n s).length≤256^n:=Nat.pow_le_pow_right (by decide) (Zna n s);unfold nmV;omega
theorem Zex{a b:World}{r r2:Option Nat}(h:w.grownBy a r)(h2:a.grownBy b r2)(hq:∀q,r2=some q→w.heap.size≤q):w.grownBy b r :=
 ⟨h2.os.trans h.os,h2.tape.trans h.tape,h2.output.trans h.output,Nat.le_trans h.size h2.size,fun i hi hne=>(h2.block i (Nat.lt_of_lt_of_le hi h.size) (fun e=>by have:=hq i e.symm;omega)).trans (h.block i hi hne)⟩
structure RdS (w0 w:World) (g:Nat) (s:RS):Prop where
 blk:∃v,Blk w g 102 #[v,.bool s.2]∧Zao (View.but w0.cell? (some g)) v s.1
 grown:w0.grownBy w (some g)
 lt:g<w0.heap.size
theorem RdS.kept{w0:World}{s:RS}(h:RdS w0 w g s)(hb:Below w.heap.size w w'):RdS w0 w' g s:=by
 obtain⟨v,hB,hr⟩:=h.blk;exact⟨⟨v,hB.kept hb,hr⟩,Zaf h.grown (Zak _ hb),h.lt⟩
theorem RdS.step{w0:World}{r:Option Nat}{s:RS}(h:RdS w0 w g s)(hg:w.grownBy w' r)(hq:∀q,r=some q→w0.heap.size≤q):RdS w0 w' g s:=by
 obtain⟨v,hB,hr⟩:=h.blk;exact⟨⟨v,hB.grown hg (fun e=>by have:=hq g e.symm;have:=h.lt;omega),hr⟩,Zex h.grown hg hq,h.lt⟩
theorem RdS.size{w0:World}{s:RS}(h:RdS w0 w g s):w0.heap.size≤w.heap.size:=h.grown.size
theorem RVec.takeN{n:Nat}(hr:RVec enc bs h (.slice A n c) xs)(hk:k≤xs.length):RVec enc bs h (.slice A k c) (xs.take k):=by
 obtain⟨A',c',e,h1,h2,h3,h4,h5⟩:=hr;injection e with e1 e2 e3;subst e1 e2 e3;have hl:(xs.take k).length=k:=by simp;omega
 refine⟨A,c,by rw[hl],by omega,h2,by rw[hl];exact Nat.le_trans (Nat.mul_le_mul_right _ hk) h3,h4,fun hp=>?_⟩;obtain⟨b,o,ea,hc⟩:=h5 (by omega);refine⟨b,o,ea,fun i hi=>?_⟩;rw[hl]at hi;rw[hc i (by omega),List.getElem_take]
theorem RVec.dropN{n:Nat}(hr:RVec enc bs h (.slice A n c) xs){lo:Nat}(hm:lo≤xs.length):RVec enc bs h (.slice (A.map fun x=>x.add lo) (xs.length-lo) (c-lo)) (xs.drop lo):=by
 obtain⟨A',c',e,h1,h2,h3,h4,h5⟩:=hr;injection e with e1 e2 e3;subst e1 e2 e3;have hl:(xs.drop lo).length=xs.length-lo:=by simp
 refine⟨_,_,by rw[hl],by omega,Nat.le_trans (Nat.sub_le _ _) h2,?_,?_,fun hp=>?_⟩
 ·rw[hl];exact Nat.le_trans (Nat.mul_le_mul_right _ (by omega)) h3
 ·intro hA;cases A with
  |none=>have:=h4 rfl;omega
  |some a=>simp at hA
 ·obtain⟨b,o,ea,hc⟩:=h5 (by omega);subst ea;refine⟨b,o+lo,by simp[Zbs],fun i hi=>?_⟩;rw[hl]at hi;have:=hc (lo+i) (by omega);rw[show o+lo+i=o+(lo+i) by omega,this];simp
theorem RVec.stubN(enc:α→Value)(bs:Nat)(h:View)(A:Option Addr){m:Nat}(hm:m=0)(hc:c=0)(hx:xs.length=m):RVec enc bs h (.slice A m c) xs:=by
 subst hm hc;have:xs=[]:=List.eq_nil_of_length_eq_zero hx;subst this;exact⟨A,0,rfl,Nat.le_refl _,Nat.zero_le _,by simp,fun _=>rfl,fun h=>by simp at h⟩
theorem Zhy(w0:World)(g n:Nat)(z:Int)(s:RS)(w:World)(hz:z=n)(hn:n≤1000)(hs:RdS w0 w g s) :
 Calls Tryz.prog 48 #[.pointer (some ⟨g,0,none⟩),.int .i64 z] w fun e w'=>∃d,e=.returned d∧w.grownBy w' (some g)∧RdS w0 w' g (tkS n s)∧Zao (View.from w'.cell? w.heap.size) d (tkB n s):=by
 subst hz;obtain⟨⟨v,hB,hr0⟩,hgr,hlt0⟩:=hs;have hr:=hr0.mono (Zpr hgr);obtain⟨l,sh⟩:=s;obtain⟨A,c,rfl,hlc,hcm,hl8,_,_⟩:=id hr;have hlc:l.length≤c:=hlc;have hr:Zao (View.but w.cell? (some g)) (.slice A l.length c) l:=hr;have hr0:Zao (View.but w0.cell? (some g)) (.slice A l.length c) l:=hr0;have hB:Blk w g 102 #[.slice A l.length c,.bool sh]:=hB;have hlt:=hB.lt;have g0:=hB.cell 0;have g1:=hB.cell 1;simp at g0 g1;cases sh
 ·by_cases hlen:(l.length:Int)<n
  ·have e1:tkB n (l,false)=[]:=by unfold tkB;rw[if_pos (by simp;omega)]
   have e2:tkS n (l,false)=(l,true):=by unfold tkS;rw[if_pos (by simp;omega)]
   rw[e1,e2];clear e1 e2
   go_enter Tryz.func48,Tryz.ntmps48
   go_wp2_with (refine Zai (n:=1) rfl rfl rfl rfl (by kernel_rfl) rfl hB (by simp) rfl ?_)
   intro w1 hB1 hg1;have hB1:Blk w1 g 102 #[.slice A l.length c,.bool true]:=hB1;clear g0 g1;go_wp2;go_ret;exact⟨_,rfl,hg1,⟨⟨_,hB1,hr0⟩,Zaf hgr hg1,hlt0⟩,RVec.nil _ _ _⟩
  ·have e1:tkB n (l,false)=l.take n:=by unfold tkB;rw[if_neg (by simp;omega)]
   have e2:tkS n (l,false)=(l.drop n,false):=by unfold tkS;rw[if_neg (by simp;omega)]
   rw[e1,e2];clear e1 e2;have hnl:n≤l.length:=by omega
   have hnl':(n:Int)≤(l.length:Int):=by omega
   have hnc:n≤c:=by omega
   have hnc':(n:Int)≤(c:Int):=by omega
   have hlc':(l.length:Int)≤(c:Int):=by omega
   obtain⟨P,hP⟩:∃P,Hid (l.take n=P):=⟨_,rfl⟩;obtain⟨D,hD⟩:∃D,Hid (l.drop n=D):=⟨_,rfl⟩;have hPl:P.length=n:=by rw[←hP.out];simp;omega
   have HPl:=Lib.hid hPl;have hPr:Zao w.cell? (.slice A n c) P:=by rw[←hP.out];exact RVec.take (hr.mono (View.but_le _ _)) hnl
   have hDr:Zao (View.but w0.cell? (some g)) (.slice (A.map fun x=>x.add n) (l.length-n) (c-n)) D:=by rw[←hD.out];exact hr0.dropN hnl
   have HD:=Lib.hid (show D.length=l.length-n by rw[←hD.out];simp);rw[hP.out,hD.out];clear hPl
   go_enter Tryz.func48,Tryz.ntmps48
   go_wp2_with fail
   refine(Zci _ P _ hPr).mono ?_;rintro e w1 ⟨d,rfl,hb1,o1⟩;have hB1:=hB.kept hb1;have hz1:=hb1.size;have ro:=o1.reads_from (bs:=1) (b0:=w.heap.size) (by rw[HPl.out];omega) (Nat.le_refl _) (g:=some g) (by intro k e;injection e;omega);obtain⟨A1,c1,rfl⟩:=o1.form;rw[HPl.out]at ro;have ro1:=ro;clear g0 g1 o1;have g0:=hB1.cell 0;have g1:=hB1.cell 1;simp at g0 g1
   by_cases hcn:c=n
   ·subst hcn;have hln:l.length=c:=by omega
    go_wp2_with (refine Zai (n:=1) rfl rfl rfl rfl (by kernel_rfl) rfl hB1 (by simp) rfl ?_)
    intro w2 hB2 hg2;have hB2:Blk w2 g 102 #[.slice A 0 0,.bool false]:=hB2;have hg:=Zaf (Zak (some g) hb1) hg2;clear g0 g1;go_wp2;go_ret;exact⟨_,rfl,hg,⟨⟨_,hB2,RVec.stubN _ _ _ _ rfl rfl (by rw[HD.out];omega)⟩,Zaf hgr hg,hlt0⟩,by rw[HPl.out];exact ro.mono (Za0 _ (Zbn hg2))⟩
   ·have hcn':¬(c:Int)=(n:Int):=by omega
    go_wp2_with (refine Zai (n:=1) rfl rfl rfl rfl (by kernel_rfl) rfl hB1 (by simp) rfl ?_)
    intro w2 hB2 hg2;have hB2:Blk w2 g 102 #[.slice (A.map fun x=>x.add n) (l.length-n) (c-n),.bool false]:=hB2;have hg:=Zaf (Zak (some g) hb1) hg2;clear g0 g1;go_wp2;go_ret;exact⟨_,rfl,hg,⟨⟨_,hB2,hDr⟩,Zaf hgr hg,hlt0⟩,by rw[HPl.out];exact ro.mono (Za0 _ (Zbn hg2))⟩
 ·have e1:tkB n (l,true)=[]:=by unfold tkB;rw[if_pos (by simp)]
  have e2:tkS n (l,true)=(l,true):=by unfold tkS;rw[if_pos (by simp)]
  rw[e1,e2];clear e1 e2
  go_enter Tryz.func48,Tryz.ntmps48
  go_wp2_with (refine Zai (n:=1) rfl rfl rfl rfl (by kernel_rfl) rfl hB (by simp) rfl ?_)
  intro w1 hB1 hg1;have hB1:Blk w1 g 102 #[.slice A l.length c,.bool true]:=hB1;clear g0 g1;go_wp2;go_ret;exact⟨_,rfl,hg1,⟨⟨_,hB1,hr0⟩,Zaf hgr hg1,hlt0⟩,RVec.nil _ _ _⟩
theorem Zyr{v x:Nat}(hv:v<65536)(hx:x<256):bits .or .i64 ((v:Int)*256) (x:Int)=((v*256+x:Nat):Int):=by
 have e8:(2:Int)^8=256:=by decide
 have e62:(2:Int)^62=4611686018427387904:=by decide
 have h:=bits_join .i64 62 (by decide) (fun n h0 h1=>by rw[IntKind.wrap_i64];omega) 8 ((v:Int)*256) x (by omega) (by rw[e8];omega) (by rw[e62];omega) (by omega) (by rw[e8];omega) (by rw[e62];omega);rw[h];omega
theorem Zbe(w0:World)(g n:Nat)(z:Int)(s:RS)(w:World)(hz:z=n)(hn:n≤3)(hs:RdS w0 w g s) :
 Calls Tryz.prog 45 #[.pointer (some ⟨g,0,none⟩),.int .i64 z] w fun e w'=>e=.returned (.int .i64 (nmV n s))∧w.grownBy w' (some g)∧RdS w0 w' g (tkS n s):=by
 subst hz;have hlt:=hs.lt;have hPn:=Zna n s;obtain⟨P,hP⟩:∃P,Hid (tkB n s=P):=⟨_,rfl⟩;obtain⟨V,hV⟩:∃V,Hid (nmV n s=V):=⟨_,rfl⟩;have hV2:Hid (beN P=V):=by show _=_;rw[←hP.out,←hV.out];rfl
 rw[hP.out]at hPn;rw[hV.out];have hP3:P.length≤3:=by omega
 clear hPn hV
 go_enter Tryz.func45,Tryz.ntmps45
 go_wp2_with fail
 refine(Zhy w0 g n n s _ rfl (by omega) hs).mono ?_;rintro e w1 ⟨d,rfl,hg1,hs1,hr⟩;rw[hP.out]at hr;have hr:=hr.mono (View.from_le _ _);obtain⟨A,c,rfl,hlc,_,_,_,hel0⟩:=id hr
 have Hel:Hid (∀k (hk:k<P.length),∃b o,A=some ⟨b,o,none⟩∧w1.cell? ⟨b,o+k,none⟩=some (.int .u8 P[k].toNat)):=fun k hk=>by
  obtain⟨b,o,e,h⟩:=hel0 (by omega);exact⟨b,o,e,h k hk⟩
 clear hel0 hr hs hP
 go_wp2_with fail
 go_loopw [5,7,12] (fun v _ i wr=>∃k:Nat,k≤P.length∧i=.int .i64 k∧v=.int .i64 (beN (P.take k))∧Below w1.heap.size w1 wr) (fun _ _ i _=>P.length-(intOf i).toNat)
 case atStart=>exact⟨0,Nat.zero_le _,rfl,rfl,Below.refl _ _⟩
 case round =>
  obtain⟨k,hk,rfl,rfl,hbl⟩:=hrel
  by_cases hlt:k<P.length
  ·obtain⟨b0,o0,rfl,e0⟩:=Hel.out k hlt;have c0:=Zaa hbl _ _ e0;have Hn:=Lib.hid (show beN (P.take (k+1))=beN (P.take k)*256+P[k].toNat by rw[List.take_succ_eq_append_getElem hlt,Zyg])
   have hV1:beN (P.take k)<65536:=by
    have h1:=Zyy (P.take k);have h2:256^(P.take k).length≤256^2:=Nat.pow_le_pow_right (by decide) (by simp;omega);omega
   have hx:=P[k].toNat_lt;generalize beN (P.take k)=v at *;generalize P[k].toNat=x at *;clear e0;have Ho:=Lib.hid (Zyr hV1 hx);go_wp2;go_roundw
   case rel=>exact⟨k+1,by omega,by go_num,by rw[Ho.out,Hn.out],hbl⟩
   case measure=>simp[intOf];omega
  ·have hkl:k=P.length:=by omega
   rw[hkl,List.take_length,hV2.out];clear Hel;go_wp2;go_ret;exact⟨rfl,Zaf hg1 (Zak _ hbl),hs1.kept hbl⟩
theorem OwnSl.past(hR:Mono R)(h:OwnSl sz (RFrom b R) e w b v xs)(hg:w.grownBy w' (some g))(hne:g<b):OwnSl sz (RFrom b R) e w' b v xs:=by
 obtain⟨css,h1,h2,h3⟩:=h.own;have hlt:=h1.lt;refine⟨css,h1.kept hg (.inr (fun e=>by have:=(hlt g e).1;omega)),h2,fun i hi=>?_⟩;obtain⟨cs,q1,q2,q3⟩:=h3 i hi;refine⟨cs,q1,q2,hR _ _ _ _ q3 (fun a u hu=>?_)⟩;unfold View.from at hu⊢;split at hu
 ·cases hu
 ·rename_i hlt';rw[if_neg hlt'];unfold View.but at hu⊢;split at hu
  ·cases hu
  ·rename_i hne';rw[if_neg hne'];exact hg.cell hu (by intro e;injection e;omega)
theorem Zd3{b':Nat}(hb:b'≤b):VLe (View.from h b) (View.from h b'):=fun a v e=>by
 unfold View.from at e⊢
 split at e
 ·cases e
 ·rename_i hne
  rw[if_neg (by omega)]
  exact e
theorem Zbj(hg:w.grownBy w' (some g))(hne:g<b):VLe (View.from w.cell? b) (View.from w'.cell? b):=Zde (Nat.le_refl _) (VLe.refl _) hg hne
theorem Zpb{b':Nat}{g:Option Nat}(hb:b'≤b)(hg:∀k,g=some k→k<b):VLe (View.from h b) (View.from (View.but h g) b'):=fun a v e=>by
 unfold View.from at e⊢
 split at e
 ·cases e
 ·rename_i hne
  rw[if_neg (by omega)]
  unfold View.but
  rw[if_neg (by intro h;have:=hg _ h.symm;omega)]
  exact e
theorem Zjd(w0:World)(g:Nat)(s:RS)(w:World)(hs:RdS w0 w g s) :
 Calls Tryz.prog 78 #[.pointer (some ⟨g,0,none⟩)] w fun e w'=>∃d,e=.returned d∧w.grownBy w' (some g)∧RdS w0 w' g (Zjr s).2∧RDigs (View.from w'.cell? w.heap.size) d (Zjr s).1:=by
 have hlt0:=hs.lt;have hsz:=hs.size;obtain⟨M,hM⟩:∃M,Hid (nmV 1 s=M):=⟨_,rfl⟩;have hM256:M<256:=by rw[←hM.out];exact Zo2 1 s
 obtain⟨R,hR⟩:∃R,Hid (Zjr s=R):=⟨_,rfl⟩;have HR:Hid (it Zkg M ([],tkS 1 s)=R):=by show _=_;rw[←hR.out,←hM.out];rfl
 rw[hR.out];clear hR
 go_enter Tryz.func78,Tryz.ntmps78
 go_wp2_with fail
 refine(Zbe w0 g 1 1 s w rfl (by decide) hs).mono ?_;rintro e w1 ⟨rfl,hg1,hs1⟩;rw[hM.out];have hz1:=hg1.size;generalize tkS 1 s=s1 at hs1 HR;clear hs hM
 go_wp2_with fail
 go_loopw [3,4] (fun v i wr=>∃(k:Nat) (z:Int) (p:List (List UInt8)×RS),i=.int .i64 z∧Hid (z=(M:Int)-k)∧Hid (k≤M)∧0≤z∧z≤255∧Hid (it Zkg k ([],s1)=p)∧Hid (p.1.length≤k)∧OwnSl 1 (RFrom w1.heap.size RDig) 54 wr w1.heap.size v p.1∧RdS w0 wr g p.2∧w1.grownBy wr (some g)) (fun _ i _=>(intOf i).toNat)
 case atStart=>exact⟨0,(M:Int),([],s1),rfl,by show _=_;omega,Nat.zero_le _,by omega,by omega,rfl,Nat.zero_le _,OwnSl.nil _ _ _ _ _,hs1,Zak _ (Below.refl _ _)⟩
 case round =>
  obtain⟨k,z,p,rfl,hz,hkM,hz0,hz255,hp,hpl,hown,hsr,hgr⟩:=hrel;obtain⟨acc,l,sh⟩:=p;obtain⟨vr,hB,_⟩:=hsr.blk;have g1c:=hB.cell 1;simp at g1c;have hzr:=hgr.size;have hgw:=Zaf hg1 hgr;have done:(it Zkg M ([],s1)=(acc,(l,sh)))→Hid (R=(acc,(l,sh))):=fun h=>by show _=_;rw[←HR.out,h]
  by_cases hzp:0<z
  ·cases sh
   ·have hn:Hid (it Zkg (k+1) ([],s1)=(acc++[tkB 32 (l,false)],tkS 32 (l,false))):=by
     show Zkg (it Zkg k ([],s1))=_;rw[hp.out];rfl
    obtain⟨T,hT⟩:∃T,Hid (tkB 32 (l,false)=T):=⟨_,rfl⟩;obtain⟨S,hS⟩:∃S,Hid (tkS 32 (l,false)=S):=⟨_,rfl⟩;rw[hT.out,hS.out]at hn;clear done hp
    go_wp2_with fail
    refine(Zhy w0 g 32 32 (l,false) _ rfl (by decide) hsr).mono ?_;rintro e w2 ⟨d,rfl,hg2,hs2,hr2⟩;rw[hS.out]at hs2;rw[hT.out]at hr2;have hlto:=hown.lt;have hown2:=hown.past RDig.mono hg2 (by omega);have hR2:RFrom w1.heap.size RDig (View.but w2.cell? u3.ownBlock) [d] T:=⟨d,rfl,hr2.mono (Zpb (by omega) (fun q hq=>(hlto q hq).2))⟩;have hz2:=hg2.size;obtain⟨A',c',rfl,hform⟩:=id hr2;clear hform hr2 hT hS hown g1c hB;have hacc:acc.length≤255:=by have h1:acc.length≤k:=hpl.out;have h2:k≤M:=hkM.out;omega
    have Hacc:=Lib.hid hacc;clear hacc
    go_wp2_with (at_builtin;go_loud (refine Za2 (n:=140737488355328) (RFrom.mono RDig.mono) T [.slice A' T.length c'] Zez _ _ rfl rfl rfl hown2 (W:=w2) (Below.refl _ _) (by omega) rfl rfl rfl rfl hR2 (Nat.le_refl _) (by have:=Hacc.out;omega) (by have:=Hacc.out;omega) ?_))
    intro v' w3 ho hbl3 hg3;have hs3:=hs2.step hg3 (fun q hq=>by have:=(hlto q hq).1;omega);have hg13:w1.grownBy w3 (some g):=Zex (Zaf hgr hg2) hg3 (fun q hq=>(hlto q hq).1);obtain⟨z2,hz2'⟩:∃z2,Hid (z-1=z2):=⟨_,rfl⟩;have hzw:IntKind.i64.wrap (z-1)=z-1:=by rw[IntKind.wrap_i64];omega
    clear hown2 hR2 hs2;go_wp2;go_roundw
    case rel=>exact⟨k+1,z-1,(acc++[T],S),rfl,by show _=_;have:=hz.out;omega,by show _≤_;have:=hz.out;omega,by omega,by omega,hn,by show _≤_;have:=hpl.out;simp at this ⊢;omega,ho,hs3,hg13⟩
    case measure=>simp[intOf];omega
   ·have hR2:=done (by rw[Znt hkM.out (by rw[hp.out];rfl),hp.out]);have hacc:acc.length≤255:=by have h1:acc.length≤k:=hpl.out;have h2:k≤M:=hkM.out;omega
    have hrd:=hown.reads_from (bs:=24) RDig.mono (by show acc.length*24≤_;omega);obtain⟨oA,oc,rfl⟩:=hown.form;clear done hp;go_wp2;go_ret;exact⟨_,rfl,hgw,by rw[hR2.out];exact hsr,by rw[hR2.out];exact hrd.mono RDig.mono (Zd3 hz1)⟩
  ·have hR2:=done (by rw[show M=k by have:=hz.out;have:=hkM.out;omega,hp.out]);have hacc:acc.length≤255:=by have h1:acc.length≤k:=hpl.out;have h2:k≤M:=hkM.out;omega
   have hrd:=hown.reads_from (bs:=24) RDig.mono (by show acc.length*24≤_;omega);obtain⟨oA,oc,rfl⟩:=hown.form;clear done hp;go_wp2;go_ret;exact⟨_,rfl,hgw,by rw[hR2.out];exact hsr,by rw[hR2.out];exact hrd.mono RDig.mono (Zd3 hz1)⟩
end Go.Proofs.YtinibgklgehdpaaGreatDoor
