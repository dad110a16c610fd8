/- The law TopLine: acts as lines are the same acts: it answers true at every argument, and changes none of them: no condition; its card: the tables tied to the text of the program. -/
import Derived.Test.YtbcpbnfojfiekaaGreatDoorK46
import Derived.Test.YtbcpbnfojfiekaaGreatDoorK47
namespace Go.Proofs.YtbcpbnfojfiekaaGreatDoor
open Go.ChangeShapes Go.WideShapes Go.ChangeAt Go.RowKit Go.Proofs.Tryz Qa Qb Qc
set_option linter.all false
set_option maxHeartbeats 20000000
set_option maxRecDepth 100000
variable{W:World}{v:Value}{cs:Array Value}{t:TypeId}{g:Nat}
theorem topLine_lifted(os:Os)(started:os.Started)(H:Type)(enc:TypeId×Value→H)(F:Stop.Interp) :
 ReturnsInHanded {} Tryz.checked os 3 .any ((OpenSpec.ofChange Rows.topLineSpec).preRow enc prog Tryz.f3 Rows.topLineRow.domain false Rows.topLineRow.laid) (((OpenSpec.ofChange Rows.topLineSpec).at F).post enc prog Tryz.f3 false true false false):=by
 refine returnsInHanded_of_row (C:=Tryz.checked) (s:=OpenSpec.ofChange Rows.topLineSpec) own_ started (by kernel_rfl) func3
  (witness_row_atRef (enc:=enc) (C:=Tryz.checked) false (Fl.lnWorld os) #[.slice none 0 0,.int .i64 0] rfl (by kernel_rfl) (by kernel_rfl) (by kernel_rfl)
   (OpenSpec.preRow_of_B rfl 8 (by kernel_rfl) (by kernel_rfl) (Fl.ln_met os))) ?_
 intro W base args ds gs before d o _ _ a m l _;have c:∀(j:Nat) t v,Tryz.f3.params[j]?=some t→args[j]?=some v→Value.okWide prog W .any base t v:=d;have g:=o;obtain⟨p,q,f,u,rfl,z,w⟩:=o;obtain⟨rfl,rfl⟩:=trodVars_none u;have f:DataW.TrodAll enc prog W 0 (fun _=>true) true Tryz.f3.params.toList args.toList ds p:=f;have a:(DataW.weightsEach prog (Tryz.f3.params.toList++[]) (ds++[])).all (·≤reachBytes)=true:=a;rw[List.append_nil,List.append_nil]at a;rw[params3]at f c a;obtain⟨v0,v1,d0,d1,p0,p1,rfl,rfl,rfl,r,x⟩:=trodAll_two f;have k:∀n∈DataW.weights prog _ d0,n≤reachBytes:=fun n hn=>by simpa using List.all_eq_true.1 a n (DataW.weights_mem_each (j:=0) rfl rfl n hn)
 have i:∀n∈DataW.weights prog _ d1,n≤reachBytes:=fun n hn=>by simpa using List.all_eq_true.1 a n (DataW.weights_mem_each (j:=1) rfl rfl n hn)
 refine(Fl.topLine_open W (Fl.tabs_of m) (Ln.env_of m l) (c 0 _ _ rfl rfl) r k (c 1 _ _ rfl rfl) x i).mono fun e W' ⟨y,h⟩=>?_
 exact Zxo (s:=Rows.topLineSpec) laidOut (b:=4) rfl underlying4 rfl (Zwx _ (by kernel_rfl)) rfl g y h
theorem topLine_holds:Rows.TopLineSaid :=
 OpenClaim.holds_of_cond 3 Tryz.f3 rfl rfl rfl rfl rfl rfl rfl ⟨rfl,rfl,rfl,rfl,rfl⟩ rfl rfl rfl rfl rfl (by kernel_rfl) func3 (by kernel_rfl)
  (of_decide_eq_true (by kernel_rfl)) (by unfold Func.isWrapper;first|(rw[if_pos (by decide +kernel)];kernel_rfl)|(rw[if_neg (by decide +kernel)];exact⟨rfl,rfl⟩))
  (fun os started H enc _ F=>by rw[OpenClaim.pre_eq_preRow];exact topLine_lifted os started H enc F)
theorem topLine_card:Rows.TopLineCardSaid :=
 Claim7.holds_tied_plain_at .later [] _ _ _ _ topLine_holds (fun _ h=>by cases h) (by kernel_rfl) (fun _ h=>by cases h) topLine_row_tie rfl ⟨rfl,rfl⟩ (by kernel_rfl) rfl
  (fun f fn c b=>by
   obtain rfl : f = 3 := Option.some.inj ((show prog.funcNamed "sheaves/sheavestop.TopLine" = some 3 by kernel_rfl).symm.trans c) |>.symm
   obtain rfl:fn=Tryz.f3:=(Option.some.inj (func3.symm.trans b)).symm
   exact⟨by kernel_rfl,fun j t ht=>by
    have a:(Tryz.f3.params.toList.all fun u=> !prog.wantsStandIn u)=true:=by kernel_rfl
    have:=List.all_eq_true.1 a t (by simpa using Array.mem_of_getElem? ht)
    exact(show prog.wantsStandIn t=false by simpa using this)⟩)
  (by kernel_rfl)
end Go.Proofs.YtbcpbnfojfiekaaGreatDoor
