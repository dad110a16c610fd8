/- The law TopSingle: for each author and round there is at most one digest that is certified, anywhere: it answers true at every argument, and changes none of them: no condition; its card: the tables tied to the program's text. -/
import Derived.Test.YtinibgklgehdpaaGreatDoorXLawSingle01
import Derived.Test.YtinibgklgehdpaaGreatDoorXLawSingle01
namespace Go.Proofs.YtinibgklgehdpaaGreatDoor
open Go.ChangeShapes Go.WideShapes Go.ChangeAt Go.RowKit Qa Qb Qc
set_option linter.all false
set_option maxHeartbeats 20000000
set_option maxRecDepth 100000
variable{v:Value}
namespace Fl
theorem topSingle_any(v:Value)(l:List At)(n:Int)(w:World)(rl:RAts w.cell? v l)(hg:∀g∈l,GOk g)(hn:I64 n)(hT:Tabs w.cell?) :
 Calls Tryz.prog 3 #[v,.int .i64 n] w fun e w'=>e=.returned (.bool true)∧Below w.heap.size w w':=by
 have h1:=bad_any n;have hr:=Zz0 n;obtain⟨B,hB⟩:∃P,Hid (badI n=P):=⟨_,rfl⟩;rw[hB.out]at h1 hr;have H1:=Lib.hid (fun w=>h1 w hn);have HG:=Lib.hid hg;have Hr:=Lib.hid hr;obtain⟨A,lc,rfl,hf⟩:=id rl;clear h1 hB hg hn hf hr
 go_enter Tryz.func3,Tryz.ntmps3
 go_wp2_with fail
 refine(H1.out _).mono ?_;rintro e wz ⟨rfl,rfl⟩
 go_wp2_with fail
 refine(Zyn _ l 80 _ rl HG.out (by decide)).mono ?_;rintro e w1 ⟨v1,a,rfl,hb1,o1,ha,hal⟩;have Ha:=Lib.hid ha;obtain⟨A1,c1,rfl⟩:=o1.form;have r1:=o1.reads (by omega);have hz1:=hb1.size;clear o1 ha rl
 go_wp2_with fail
 refine(calm_any 4 _ (by decide)).mono ?_;rintro e w1' ⟨v1',rfl,hb1',o1'⟩;obtain⟨q1',hq1'⟩:∃q,Hid (calmA 4=q):=⟨_,rfl⟩;have hq3:(calmA 4).length≤40:=by decide
 have HQ:=Lib.hid (calmA_acts 4);rw[hq1'.out]at o1' hq3 HQ;obtain⟨A1',c1',rfl⟩:=o1'.form;have rq:=o1'.reads (by omega);have r1:=r1.mono RAt.mono (Zaa hb1');have hbl1:=hb1.trans (hb1'.mono hz1);have hz1:=hbl1.size;clear o1' hq1'
 go_wp2_with fail
 refine(Zq3 _ _ a q1' _ r1 rq (by omega)).mono ?_;rintro e w2 ⟨v2,rfl,hb2,o2⟩;have hbl2:=hbl1.trans (hb2.mono hz1);have hz2:=hbl2.size;have hl2:(a++q1').length≤200:=by simp;omega
 have Ha2:Hid (Acts (a++q1')):=Lib.hid (Ha.out.append HQ.out);have Hlaw:=Lib.hid (views_one Hr.out Ha2.out);obtain⟨ls,has⟩:∃ls,Hid (a++q1'=ls):=⟨_,rfl⟩;rw[has.out]at o2 hl2 Ha2 Hlaw;obtain⟨A2,c2,rfl⟩:=o2.form;have r2:=o2.reads (by omega);clear o2 r1 rq has
 go_wp2_with fail
 refine(Zrj B _ ls _ Hr.out r2 Ha2.out (by omega) (hT.mono (Zaa hbl2))).mono ?_;rintro e w3 ⟨X1,x1,X2,xn,x2,X3,xm,x3,rfl,hb3,hxn,-,rxv,rxs⟩;have hbl3:=hbl2.trans (hb3.mono hz2);have hz3:=hbl3.size;obtain⟨AX,hAX⟩:∃a:Nat,Hid ((run B ls).away.length=a):=⟨_,rfl⟩;rw[hAX.out];obtain⟨V,hV⟩:∃V,Hid (Zhg (run B ls)=V):=⟨_,rfl⟩;rw[hV.out]at rxv Hlaw;clear hV hAX r2 hxn rxs
 go_upto_region 3 with fail
 refine Zo fun W4 hk4 hsz4 hb4=>?_
 clear hsz4;have hbl4:=hbl3.trans (hb4.mono hz3);have hz4:=hbl4.size;have q4:=Zaa hb4;have hT4:=hT.mono (Zaa hbl4)
 go_wp2_with (refine wpList_load_row_g rfl 28 _ rfl _ rfl _ _ _ _ hk4 Tryz.underlying28 rfl (by kernel_rfl) ?_)
 refine(one_any _ _ _ _ AX _ V _ (rxv.mono RVw.mono q4) ⟨_,_,_,rfl⟩ ⟨_,_,_,rfl⟩ hT4 Hlaw.out).mono ?_;rintro e w5 ⟨rfl,hb5⟩;have hbl5:=hbl4.trans (hb5.mono hz4);go_wp2;go_ret;exact⟨rfl,hbl5⟩
theorem topSingle_open{H:Type}{enc:TypeId×Value→H}(W:World)(hT:Tabs W.cell?){base:Nat}{v1:Value}{d d1:DataW H}{p p1:List MemPlace}(hval:Value.okWide Tryz.prog W .any base 22 v)(h:DataW.Trod enc Tryz.prog W 0 (fun _=>true) true 22 v d p)(hw:∀n∈DataW.weights Tryz.prog 22 d,n≤reachBytes)(hval1:Value.okWide Tryz.prog W .any base 3 v1)(h1:DataW.Trod enc Tryz.prog W 0 (fun _=>true) true 3 v1 d1 p1)(hw1:∀n∈DataW.weights Tryz.prog 3 d1,n≤reachBytes):Calls Tryz.prog 3 #[v,v1] W fun e w'=>e=.returned (.bool true)∧Below W.heap.size W w':=by
 obtain⟨l,hl,hg⟩:=Zsz hval h hw;obtain⟨n,rfl,hn⟩:=Zrm hval1 h1 hw1;exact topSingle_any _ l n _ hl hg hn hT
end Fl
open Fl in
theorem topSingle_lifted(os:Os)(started:os.Started)(H:Type)(enc:TypeId×Value→H) :
 ReturnsInHanded {} Tryz.checked os 3 .any (fun w args=>(Rows.topSingleSpec.pre enc Tryz.prog Tryz.f3 [] false w args∧laidMetH Tryz.prog Zvd w)∧sizedMet enc Tryz.prog Tryz.f3 (OpenSpec.ofChange Rows.topSingleSpec) false w args) (Rows.topSingleSpec.post enc Tryz.prog Tryz.f3 false true false false):=by
 refine returnsInHanded_of_change_and (C:=Tryz.checked) (X:=fun w _=>laidMetH Tryz.prog Zvd w) (fun _ _ _ hh h=>h.of_heap hh) own_ started (by kernel_rfl) Tryz.func3
  (ChangeSpec.witness_shaped (enc:=enc) (C:=Tryz.checked) (os:=os) (X:=fun w _=>laidMetH Tryz.prog Zvd w) false (World.doorLaid Tryz.prog 400 os) #[.slice none 0 0,.int .i64 0] 8 rfl (World.shaped_of_RefB (by kernel_rfl) (by kernel_rfl)) (by kernel_rfl) (by kernel_rfl) (by kernel_rfl) (Zx4 os _)) ?_
 intro W base args ds gs before hval0 hW _ hsz hL _;have hval:∀(j:Nat) t v,Tryz.f3.params[j]?=some t→args[j]?=some v→Value.okWide Tryz.prog W .any base t v:=hval0;have hW':=hW;obtain⟨p,q,hA,hV,rfl,hfz,hnd⟩:=hW;obtain⟨rfl,rfl⟩:=trodVars_none hV;have hA:DataW.TrodAll enc Tryz.prog W 0 (fun _=>true) true Tryz.f3.params.toList args.toList ds p:=hA;rw[Tryz.params3]at hA hval hsz;obtain⟨v0,v1,d0,d1,p0,p1,rfl,rfl,rfl,h0,h1⟩:=trodAll_two hA;have hs0:∀n∈DataW.weights Tryz.prog _ d0,n≤reachBytes:=fun n hn=>by simpa using List.all_eq_true.1 hsz n (DataW.weights_mem_each (j:=0) rfl rfl n hn)
 have hs1:∀n∈DataW.weights Tryz.prog _ d1,n≤reachBytes:=fun n hn=>by simpa using List.all_eq_true.1 hsz n (DataW.weights_mem_each (j:=1) rfl rfl n hn)
 refine(topSingle_open W (Zzg hL) (hval 0 _ _ rfl rfl) h0 hs0 (hval 1 _ _ rfl rfl) h1 hs1).mono fun e W' ⟨he,hb⟩=>?_
 exact Zva Zzk (b:=4) rfl Tryz.underlying4 rfl (Zur _ (by kernel_rfl)) rfl hW' he hb
theorem topSingle_holds:Rows.TopSingleSaid :=
 OpenClaim.holds_of_wide 3 Tryz.f3 rfl rfl rfl rfl rfl rfl rfl ⟨rfl,rfl,rfl,rfl,rfl⟩ rfl rfl rfl rfl rfl (by kernel_rfl) Tryz.func3 (by kernel_rfl)
  (of_decide_eq_true (by kernel_rfl)) (by unfold Func.isWrapper;first|(rw[if_pos (by decide +kernel)];kernel_rfl)|(rw[if_neg (by decide +kernel)];exact⟨rfl,rfl⟩))
  (fun os started H enc _=>topSingle_lifted os started H enc)
theorem topSingle_card:Rows.TopSingleCardSaid :=
 Claim7.holds_tied_plain_at .later [] [.widerDeep,.data,.data] true Rows.topSingleCard.stood.harness false
  topSingle_holds (fun _ h=>by cases h) (by kernel_rfl) (fun _ h=>by cases h) topSingle_row_tie rfl ⟨rfl,rfl⟩ (by kernel_rfl) rfl
  (fun f fn hf hfn=>by
   obtain rfl : f = 3 := Option.some.inj ((show Tryz.prog.funcNamed "sheaves/sheavestop.TopSingle" = some 3 by kernel_rfl).symm.trans hf) |>.symm
   obtain rfl:fn=Tryz.f3:=(Option.some.inj (Tryz.func3.symm.trans hfn)).symm
   exact⟨by kernel_rfl,fun j t ht=>by
    have hall:(Tryz.f3.params.toList.all fun u=> !Tryz.prog.wantsStandIn u)=true:=by kernel_rfl
    have:=List.all_eq_true.1 hall t (by simpa using Array.mem_of_getElem? ht)
    exact(show Tryz.prog.wantsStandIn t=false by simpa using this)⟩)
  (by kernel_rfl)
end Go.Proofs.YtinibgklgehdpaaGreatDoor
