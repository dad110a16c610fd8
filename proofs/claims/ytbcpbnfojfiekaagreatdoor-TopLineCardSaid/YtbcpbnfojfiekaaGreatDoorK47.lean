/- A part of what the last text stands on. -/
import Derived.Deep.DeepHandedRow
import Derived.Deep.DeepWitnessRowRef
import Derived.LaidOnce
import Derived.Test.YtbcpbnfojfiekaaGreatDoorCards
import Derived.Test.YtbcpbnfojfiekaaGreatDoorTie
import Derived.Test.YtbcpbnfojfiekaaGreatDoorK45
namespace Go.Proofs.YtbcpbnfojfiekaaGreatDoor
open Go.ChangeShapes Go.WideShapes Go.ChangeAt Go.RowKit Go.Proofs.Tryz Qa Qb Qc
set_option linter.all false
set_option maxHeartbeats 20000000
set_option maxRecDepth 100000
variable{W:World}{v:Value}{cs:Array Value}{t:TypeId}{g:Nat}
namespace Ln
theorem Zns{nm:String}{fuel:Nat}{ps:List MemPlace}{H:Type}{enc:TypeId×Value→H}{base:Nat}{sp:Nat→Bool}{ms:Array (String×TypeId)}{name:String}{d:DataW H}(b:prog.globalNamed nm=some g)(a:(prog.globals[g]?).map (·.type)=some t)(hi:prog.underlying t=some (.interface ms)){g':Nat}{t':TypeId}(c:prog.globalNamed nm=some g')(ht:(prog.globals[g']?).map (·.type)=some t')(f:W.var? prog nm=some cs)(hd:DataW.trod enc prog W base sp false fuel t' cs.toList=some (.iface name d,ps)):∃ev,W.cell? ⟨g,0,none⟩=some ev∧(ev=.nilIface∨∃te pe,ev=.iface te pe):=by
 obtain rfl:=Option.some.inj (b.symm.trans c);obtain rfl:=Option.some.inj (a.symm.trans ht);obtain⟨_,u,v,e,_,_⟩:=iface_of_trod hi hd;refine⟨.iface u v,?_,.inr ⟨u,v,rfl⟩⟩;rw[World.var?_cell c f 0,←Array.getElem?_toList,e];rfl
theorem env_of(h:laidMetH prog Rows.topLineRow.laid W)(O:W.ShapedOpen prog):Env W:=by
 unfold Rows.topLineRow at h;rw[MakeChecks.laidMetH_plain _ _ _ (by kernel_rfl)]at h;obtain⟨ps,⟨g0,t0,cs0,f0,p0,q0,P,I,L,C,⟨g1,t1,cs1,f1,p1,q1,s,z,M,D,⟨g2,t2,cs2,f2,p2,q2,f,k,b,i,⟨g3,t3,cs3,f3,p3,q3,N,J,B,w,⟨g4,t4,cs4,f4,p4,q4,g,m,e,c,⟨g5,t5,cs5,f5,p5,q5,j,l,p,a,⟨g6,t6,cs6,f6,p6,q6,K,v,u,A,⟨g7,t7,cs7,f7,p7,q7,x,F,r,Q,⟨g8,t8,cs8,f8,p8,q8,y,G,E,H,⟨g9,t9,cs9,f9,p9,q9,n,q,o,d,_,_⟩,_⟩,_⟩,_⟩,_⟩,_⟩,_⟩,_⟩,_⟩,_⟩,_,_⟩:=h;refine⟨Zy6 n q o d,pow_of f k b i,?_,?_,?_⟩
 ·exact cell_of_shapedOpen_int (zero:=#[.int .i64 0]) (t:=3) O (of_decide_eq_true (by kernel_rfl)) (by kernel_rfl) rfl (by kernel_rfl) (by kernel_rfl) underlying3
 ·exact Zns (t := 60) (show prog.globalNamed "strconv.ErrSyntax" = some 3 by kernel_rfl) (by kernel_rfl) underlying60 j l p a
 ·exact Zns (t := 60) (show prog.globalNamed "strconv.ErrRange" = some 4 by kernel_rfl) (by kernel_rfl) underlying60 g m e c
end Ln
namespace Fl
theorem Zqm{P:Program}{w:World}:∀(a:List (String×DataW Unit)) {b:List (String×DataW Unit)} {ps:List MemPlace},DataW.LaidVars P w (a++b) ps→∃q,DataW.LaidVars P w b q∧q.Sublist ps
 |[],_,ps,h=>⟨ps,h,List.Sublist.refl _⟩
 |_::a,_,_,⟨_,_,_,_,_,_,_,_,_,_,h,e⟩=>by
  obtain⟨q,c,d⟩:=Zqm a h
  subst e
  exact⟨q,c,d.trans (List.sublist_append_right _ _)⟩
theorem Zql{P:Program}{w:World}:∀(a:List (String×DataW Unit)) {b:List (String×DataW Unit)} {ps:List MemPlace},DataW.LaidVars P w (a++b) ps→∃q,DataW.LaidVars P w a q∧q.Sublist ps
 |[],_,_,_=>⟨[],rfl,List.nil_sublist _⟩
 |(_,_)::a,_,_,⟨g,t,cs,f,p,q,h1,h2,h3,h4,h5,e⟩=>by
  obtain⟨q',c,d⟩:=Zql a h5
  subst e
  exact⟨_,⟨g,t,cs,f,p,q',h1,h2,h3,h4,c,rfl⟩,(List.Sublist.refl _).append d⟩
theorem tabs_of(h:laidMetH prog Rows.topLineRow.laid W):Tabs W.cell?:=by
 rw[MakeChecks.laidMetH_plain _ _ _ (by kernel_rfl)]at h;obtain⟨ps,h,hn,e⟩:=h;obtain⟨q,d,s1⟩:=Zqm (Rows.topLineRow.laid.take 6) (b:=Rows.topLineRow.laid.drop 6) h;obtain⟨q',f,s2⟩:=Zql laid3 (b:=Rows.topLineRow.laid.drop 9) d;have a:=s2.trans s1;refine of_laid ?_;rw[MakeChecks.laidMetH_plain _ _ _ (by kernel_rfl)];exact⟨q',f,a.nodup hn,fun b o c=>e b o (a.subset c)⟩
def Zzd:DataW Unit→Array Value
 |.agg l=>(l.map fun d=>match d with|.lit (.int k z)=>Value.int k z|_=>undef).toArray
 |_=>#[]
noncomputable def lnWorld (os:Os):World :=
 {World.doorLaid prog 400 os with heap:=(World.doorLaid prog 400 os).heap.modify 7 fun
  |.cells _ t frozen=>.cells (Zzd Go.Pinned.utf8First) t frozen
  |o=>o }
theorem met_bits{P:Program}{w:World}{l:List (String×DataW Unit)}(fuel M:Nat)(h:(DataW.laidRun P w fuel (l.map (·.1))).map (·.1)=some l)(hr:(DataW.laidRun P w fuel (l.map (·.1))).map (fun x=>nodupBits M x.2 0&&laidRowsB P w x.2)=some true):laidMet P l w:=by
 cases hx:DataW.laidRun P w fuel (l.map (·.1)) with
 |none=>simp[hx]at h
 |some x=>
  obtain⟨l',ps⟩:=x;simp only[hx,Option.map_some,Option.some.injEq]at h hr;subst h;simp only[Bool.and_eq_true]at hr;exact laidMet_of_run fuel hx (decide_eq_true (nodupBits_sound hr.1).1) hr.2
theorem ln_met(os:Os):laidMetH prog Rows.topLineRow.laid ((lnWorld os).forCall (fun _ _=>0) ⟨#[],#[.slice none 0 0,.int .i64 0],[]⟩).memory :=
 laidMetH_of_parts3 (fuel:=8) (met_bits 8 1000 (by kernel_rfl) (by kernel_rfl)) (by kernel_rfl) (by kernel_rfl)
end Fl
end Go.Proofs.YtbcpbnfojfiekaaGreatDoor
