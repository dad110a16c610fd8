/- A part of what the last text stands on. -/
import Derived.Test.YtinibgklgehdpaaGreatDoorK03
import Derived.Test.YtinibgklgehdpaaGreatDoorK15
import Derived.Test.YtinibgklgehdpaaGreatDoorK16
namespace Go.Proofs.YtinibgklgehdpaaGreatDoor
open Go.ChangeShapes Go.WideShapes Go.ChangeAt Go.RowKit Qa Qb Qc
set_option linter.all false
set_option maxHeartbeats 20000000
set_option maxRecDepth 100000
variable{w:World}{a:Act}{o:Oper}{v:Value}{k i j:Nat}
section
variable {P:Program} {ops:Array Oper} {Q:Exit→Act→World→Prop} {S:World→Prop} {C:List Nat}
theorem wpC_first{T:World→Prop}{oi:Oper}(hi:ops[i]?=some oi)(hsel:∀(j:Nat) (o:Oper) cs b,ops[j]?=some o→o.op≠.select cs b)(hQ:∀c a w,Q (.panic c) (a.put oi.dst v) w→Q (.panic c) a w)(hT:∀j oj w,ops[j]?=some oj→(∀e∈oj.after,Region.binds .any e=true→e.on≠i)→(j∉C→S w)→T w)(hiC:i∉C→∀w,T w→S w) :
 ∀(fuel:Nat) (listed:Array Bool) (a:Act) (w:World),
  (∀j oj,ops[j]?=some oj→j≠i→listed.getD j true=false→(∀e∈oj.after,Region.binds .any e=true→e.on≠i)→oi.apart ops oj=true) →
  i∈Region.ready .any ops listed→YieldsIf P ops T oi v a→T w →
  wpC P ops Q S C fuel (listed.setIfInBounds i true) (a.put oi.dst v) w→wpC P ops Q S C (fuel+1) listed a w:=by
 intro fuel
 induction fuel with
 |zero =>
  intro listed a w _ hr hy hTw H
  refine⟨fun h=>(by rw[h]at hr;cases hr),fun j hj=>?_⟩
  by_cases hji:j=i
  ·subst hji;exact hy.wpOp hi hTw ⟨fun hn=>hiC hn w hTw,H⟩
  ·have:=ready_mono hj hji
   rw[H.1]at this
   cases this
 |succ fuel ih =>
  intro listed a w hfree hr hy hTw H
  refine⟨fun h=>(by rw[h]at hr;cases hr),fun j hj=>?_⟩
  by_cases hji:j=i
  ·subst hji;exact hy.wpOp hi hTw ⟨fun hn=>hiC hn w hTw,H⟩
  ·have h1:=H.2 j (ready_mono hj hji)
   obtain⟨hjun,oj,hoj,hall⟩:=mem_ready.1 hj
   have hnot:∀e∈oj.after,Region.binds .any e=true→e.on≠i:=fun e he hb heq=>by
    have h1:=hall e he hb
    have h0:=(mem_ready.1 hr).1
    rw[heq]at h1
    rcases Nat.lt_or_ge i listed.size with h'|h'
    ·simp[h']at h0 h1;rw[h0]at h1;cases h1
    ·simp[Array.getElem?_eq_none h']at h1
   have h2:=wpOp_putIf hoj (hfree j oj hoj hji hjun hnot) (fun cs b=>hsel i oi cs b hi) (fun cs b=>hsel j oj cs b hoj) hQ hy h1
   have hfree':∀k ok,ops[k]?=some ok→k≠i→(listed.setIfInBounds j true).getD k true=false →
    (∀e∈ok.after,Region.binds .any e=true→e.on≠i)→oi.apart ops ok=true:=fun k ok hk hki hun hno=>by
    refine hfree k ok hk hki ?_ hno
    by_cases hjk:j=k
    ·subst hjk;exact hjun
    ·rw[getD_set_ne true hjk]at hun;exact hun
   refine wpOp_mono (fun a' w' h3=>⟨h3.2.1,ih (listed.setIfInBounds j true) a' w' hfree' (ready_mono hr (Ne.symm hji)) h3.1 (hT j oj w' hoj hnot h3.2.1) ?_⟩) h2
   rw[Array.setIfInBounds_comm _ _ hji]
   exact h3.2.2
def closeOk(ops:Array Oper)(C:List Nat)(i:Nat):Bool:=C.all fun j=>match ops[j]? with|some o=>o.after.any (fun e=>Region.binds .any e&&e.on==i)|none=>false
def Pl.ok(ops:Array Oper)(C:List Nat):Pl→Array Bool→Bool
 |.nil,x=>(Region.ready .any ops x).isEmpty
 |.q i p,x=>Region.free .any ops x i&&(Region.ready .any ops x).contains i&&closeOk ops C i&& !C.contains i&&p.ok ops C (x.setIfInBounds i true)
 |.qc i p,x=>Region.free .any ops x i&&(Region.ready .any ops x).contains i&&C.contains i&&p.ok ops C (x.setIfInBounds i true)
 |.l i p,x=>Region.ready .any ops x==[i]&&p.ok ops C (x.setIfInBounds i true)
 |.alt i p j r,x=>Region.ready .any ops x==[i,j]&&p.ok ops C (x.setIfInBounds i true)&&r.ok ops C (x.setIfInBounds j true)&&p.fuel==r.fuel
theorem Pl.sound(hs:Region.noSelect ops=true)(hQ:∀c a d v w,Q (.panic c) (Act.put a d v) w→Q (.panic c) a w) :
 ∀(t:Pl) (x:Array Bool) (a:Act) (w:World),t.ok ops C x=true→t.wp P ops Q S C a w→wpC P ops Q S C t.fuel x a w
 |.nil,x,a,w,hp,h=>⟨by simpa[Pl.ok]using hp,h⟩
 |.q i p,x,a,w,hp,h=>by
  obtain⟨o,v,ho,hy,hSw,hr⟩:=h
  simp only[Pl.ok,Bool.and_eq_true,Bool.not_eq_true']at hp
  obtain⟨⟨⟨⟨h1,h2⟩,h3⟩,h4⟩,h5⟩:=hp
  refine wpC_first (T:=S) ho (Region.noSelect_spec hs) (fun c a w=>hQ c a o.dst v w) (fun j oj w' hj hno hS=>hS (fun hm=>?_)) (fun _ _ h=>h) p.fuel x a w (Region.free_spec ho h1) (by simpa using h2) hy hSw (Pl.sound hs hQ p _ _ w h5 hr)
  have:=List.all_eq_true.1 h3 j hm
  rw[hj]at this
  obtain⟨k,hk,hk2⟩:=Array.any_eq_true.1 this
  simp only[Bool.and_eq_true,beq_iff_eq]at hk2
  exact hno _ (Array.getElem_mem hk) hk2.1 hk2.2
 |.qc i p,x,a,w,hp,h=>by
  obtain⟨o,v,ho,hy,hr⟩:=h
  simp only[Pl.ok,Bool.and_eq_true]at hp
  obtain⟨⟨⟨h1,h2⟩,h3⟩,h5⟩:=hp
  refine wpC_first (T:=fun _=>True) ho (Region.noSelect_spec hs) (fun c a w=>hQ c a o.dst v w) (fun _ _ _ _ _ _=>trivial) (fun hn _ _=>absurd (by simpa using h3) hn) p.fuel x a w (Region.free_spec ho h1) (by simpa using h2) hy trivial (Pl.sound hs hQ p _ _ w h5 hr)
 |.l i p,x,a,w,hp,h=>by
  simp only[Pl.ok,Bool.and_eq_true,beq_iff_eq]at hp
  refine⟨fun h0=>by rw[h0]at hp;exact absurd hp.1 (by simp),fun j hj=>?_⟩
  rw[hp.1]at hj
  rw[List.mem_singleton.1 hj]
  exact wpOp_mono (fun a' w' hK=>⟨Zfy hK.1,Pl.sound hs hQ p _ a' w' hp.2 hK.2⟩) h
 |.alt i p j r,x,a,w,hp,h=>by
  simp only[Pl.ok,Bool.and_eq_true,beq_iff_eq]at hp
  obtain⟨⟨⟨h1,h2⟩,h3⟩,h4⟩:=hp
  refine⟨fun h0=>by rw[h0]at h1;exact absurd h1 (by simp),fun k hk=>?_⟩
  rw[h1]at hk
  simp only[List.mem_cons,List.not_mem_nil,or_false]at hk
  rcases hk with rfl|rfl
  ·exact wpOp_mono (fun a' w' hK=>⟨Zfy hK.1,Pl.sound hs hQ p _ a' w' h2 hK.2⟩) h.1
  ·exact wpOp_mono (fun a' w' hK=>⟨Zfy hK.1,by have:=Pl.sound hs hQ r _ a' w' h3 hK.2;rw[←h4]at this;exact this⟩) h.2
inductive PlT where
 |q (i:Nat) (p:PlT)
 |l (i:Nat) (p:PlT)
 |alt3 (i:Nat) (p:Pl) (j:Nat) (r:Pl) (k:Nat) (s:Pl)
def PlT.fuel:PlT→Nat
 |.q _ p=>p.fuel+1
 |.l _ p=>p.fuel+1
 |.alt3 _ p _ _ _ _=>p.fuel+1
def PlT.ok(ops:Array Oper)(C:List Nat):PlT→Array Bool→Bool
 |.q i p,x=>Region.free .any ops x i&&(Region.ready .any ops x).contains i&&closeOk ops C i&& !C.contains i&&p.ok ops C (x.setIfInBounds i true)
 |.l i p,x=>Region.ready .any ops x==[i]&&p.ok ops C (x.setIfInBounds i true)
 |.alt3 i p j r k s,x=>Region.ready .any ops x==[i,j,k]&&p.ok ops C (x.setIfInBounds i true)&&r.ok ops C (x.setIfInBounds j true)&&s.ok ops C (x.setIfInBounds k true)&&p.fuel==r.fuel&&p.fuel==s.fuel
def PlT.wp(P:Program)(ops:Array Oper)(Q:Exit→Act→World→Prop)(S:World→Prop)(C:List Nat):PlT→Act→World→Prop
 |.q i p,a,w=>∃o v,ops[i]?=some o∧YieldsIf P ops S o v a∧(S w∧p.wp P ops Q S C (a.put o.dst v) w)
 |.l i p,a,w=>wpOp P ops Q i (fun a' w'=>owed S C i w'∧p.wp P ops Q S C a' w') a w
 |.alt3 i p j r k s,a,w=>wpOp P ops Q i (fun a' w'=>owed S C i w'∧p.wp P ops Q S C a' w') a w∧wpOp P ops Q j (fun a' w'=>owed S C j w'∧r.wp P ops Q S C a' w') a w∧wpOp P ops Q k (fun a' w'=>owed S C k w'∧s.wp P ops Q S C a' w') a w
theorem PlT.sound(hs:Region.noSelect ops=true)(hQ:∀c a d v w,Q (.panic c) (Act.put a d v) w→Q (.panic c) a w) :
 ∀(t:PlT) (x:Array Bool) (a:Act) (w:World),t.ok ops C x=true→t.wp P ops Q S C a w→wpC P ops Q S C t.fuel x a w
 |.q i p,x,a,w,hp,h=>by
  obtain⟨o,v,ho,hy,hSw,hr⟩:=h
  simp only[PlT.ok,Bool.and_eq_true,Bool.not_eq_true']at hp
  obtain⟨⟨⟨⟨h1,h2⟩,h3⟩,h4⟩,h5⟩:=hp
  refine wpC_first (T:=S) ho (Region.noSelect_spec hs) (fun c a w=>hQ c a o.dst v w) (fun j oj w' hj hno hS=>hS (fun hm=>?_)) (fun _ _ h=>h) p.fuel x a w (Region.free_spec ho h1) (by simpa using h2) hy hSw (PlT.sound hs hQ p _ _ w h5 hr)
  have:=List.all_eq_true.1 h3 j hm
  rw[hj]at this
  obtain⟨k,hk,hk2⟩:=Array.any_eq_true.1 this
  simp only[Bool.and_eq_true,beq_iff_eq]at hk2
  exact hno _ (Array.getElem_mem hk) hk2.1 hk2.2
 |.l i p,x,a,w,hp,h=>by
  simp only[PlT.ok,Bool.and_eq_true,beq_iff_eq]at hp
  refine⟨fun h0=>by rw[h0]at hp;exact absurd hp.1 (by simp),fun j hj=>?_⟩
  rw[hp.1]at hj
  rw[List.mem_singleton.1 hj]
  exact wpOp_mono (fun a' w' hK=>⟨Zfy hK.1,PlT.sound hs hQ p _ a' w' hp.2 hK.2⟩) h
 |.alt3 i p j r k s,x,a,w,hp,h=>by
  simp only[PlT.ok,Bool.and_eq_true,beq_iff_eq]at hp
  obtain⟨⟨⟨⟨⟨h1,h2⟩,h3⟩,h4⟩,h5⟩,h6⟩:=hp
  refine⟨fun h0=>by rw[h0]at h1;exact absurd h1 (by simp),fun q hq=>?_⟩
  rw[h1]at hq
  simp only[List.mem_cons,List.not_mem_nil,or_false]at hq
  rcases hq with rfl|rfl|rfl
  ·exact wpOp_mono (fun a' w' hK=>⟨Zfy hK.1,Pl.sound hs hQ p _ a' w' h2 hK.2⟩) h.1
  ·exact wpOp_mono (fun a' w' hK=>⟨Zfy hK.1,by have:=Pl.sound hs hQ r _ a' w' h3 hK.2;rw[←h5]at this;exact this⟩) h.2.1
  ·exact wpOp_mono (fun a' w' hK=>⟨Zfy hK.1,by have:=Pl.sound hs hQ s _ a' w' h4 hK.2;rw[←h6]at this;exact this⟩) h.2.2
theorem Zm5{id:Nat}{l:List Oper}(S0 S:World→Prop)(C:List Nat)(t:PlT)(hm:P.follows .mixedOrders=true)(hs:Region.noSelect l.toArray=true)(hQ:∀c a d v w,Q (.panic c) (Act.put a d v) w→Q (.panic c) a w)(hlen:t.fuel=l.length)(hπ:t.ok l.toArray C (Array.replicate l.length false)=true)(hS:S0 w.drew∧S w.drew)(h:∀W,S0 W→S W→t.wp P l.toArray Q S C a W):(Code.region id l.toArray true).wp P Q a w:=by
 refine wp_region_any hm (Zik (S:=S) (C:=C) _ _ _ _ ?_);have:=PlT.sound (P:=P) (S:=S) (C:=C) hs hQ t (Array.replicate l.length false) a w.drew hπ (h _ hS.1 hS.2);rw[hlen]at this;simpa using this
theorem plt_q{p:PlT}(hS:S w)(ho:ops[i]?=some o)(hw:Region.wanted o (yielded ops a.tmps)=true)(h:∃v,(∀w,S w→(execOp a.eval o).run P w=.ok (.value v) w)∧p.wp P ops Q S C (a.put o.dst v) w):PlT.wp P ops Q S C (.q i p) a w :=
 let ⟨v,hv,h⟩:=h
 ⟨o,v,ho,.inl ⟨hw,hv⟩,hS,h⟩
theorem Zzd{p r s:Pl}(h1:wpOp P ops Q i (fun a' w'=>owed S C i w'∧p.wp P ops Q S C a' w') a w)(h2:wpOp P ops Q j (fun a' w'=>owed S C j w'∧r.wp P ops Q S C a' w') a w)(h3:wpOp P ops Q k (fun a' w'=>owed S C k w'∧s.wp P ops Q S C a' w') a w):PlT.wp P ops Q S C (.alt3 i p j r k s) a w:=⟨h1,h2,h3⟩
end
theorem Zdk(nx au:Int)(v:Value)(l:List ByteArray)(w:World)(hv:RTexts w.cell? v l)(hs:∀s∈l,s.size≤140737488355328) :
 Calls Tryz.prog 155 #[.agg #[.int .i64 nx,v],.int .i64 au] w fun e w'=>∃d1 d2,e=.returned (.tuple #[.agg #[.int .i64 (Zg8 nx l au),d1],.agg #[.int .i64 (Zov nx l au),.int .i64 (Zou nx l au),d2],.int .i64 (Zjo nx l au)])∧Below w.heap.size w w'∧RTexts (View.from w'.cell? w.heap.size) d1 (Zdj nx l au)∧RTexts (View.from w'.cell? w.heap.size) d2 (Zmm nx l au):=by
 obtain⟨A,c,rfl,hlen,_⟩:=hv.form;have hcap:l.length≤c:=by obtain⟨_,_,e,h,_⟩:=hv;injection e with _ _ e;omega
 obtain⟨F,hF⟩:∃F,Hid (Zdp nx l=F):=⟨_,rfl⟩;obtain⟨E,hE⟩:∃E,Hid (Zjo nx l au=E):=⟨_,rfl⟩;have HE:Hid (E=if F≠0 then F else if inB au 0 3 then(if l.length=0 then 8 else if 1048576<nx then 6 else 0)else 2):=by show _=_;rw[←hE.out,←hF.out];rfl
 have H1:Hid (Zg8 nx l au=if E≠0 then 0 else nx+1):=by show _=_;rw[←hE.out];rfl
 have H2:Hid (Zov nx l au=if E≠0 then 0 else au):=by show _=_;rw[←hE.out];rfl
 have H3:Hid (Zou nx l au=if E≠0 then 0 else nx):=by show _=_;rw[←hE.out];rfl
 have H4:Hid (Zdj nx l au=if E≠0 then []else l.drop 4):=by show _=_;rw[←hE.out];rfl
 have H5:Hid (Zmm nx l au=if E≠0 then []else l.take 4):=by show _=_;rw[←hE.out];rfl
 rw[hE.out];generalize Zg8 nx l au=X1 at H1⊢;generalize Zov nx l au=X2 at H2⊢;generalize Zou nx l au=X3 at H3⊢;generalize Zdj nx l au=X4 at H4⊢;generalize Zmm nx l au=X5 at H5⊢;have Hs:=Lib.hid hs;clear hs hE
 go_enter Tryz.func155,Tryz.ntmps155
 go_wp2_with fail
 refine Zoj _ _ _ _ _ _ _ (fun W=>Calls Tryz.prog _ _ W _) (fun W hk1 hk2 hk3 hsz hbl=>?_);refine(Zfx nx _ l _ (hv.mono (Zaa hbl)) Hs.out).mono ?_;rintro e w1 ⟨rfl,hb1⟩;rw[hF.out];have hbl1:=hbl.trans (hb1.mono hbl.size);have hk1:=hk1.kept hb1;have hk2:=hk2.kept hb1;have hk3:=hk3.kept hb1;have hz1:=hb1.size;clear hbl hb1;have g0:=hk1.cell 0;have g1:=hk1.cell 1;simp at g0 g1
 have fin:∀f:Int,f≠0→E=f→∀(w':World),Below w.heap.size w w'→∃d1 d2,Ending.returned (.tuple #[.agg #[.int .i64 0,.slice none 0 0],.agg #[.int .i64 0,.int .i64 0,.slice none 0 0],.int .i64 f])=.returned (.tuple #[.agg #[.int .i64 X1,d1],.agg #[.int .i64 X2,.int .i64 X3,d2],.int .i64 E])∧Below w.heap.size w w'∧RTexts (View.from w'.cell? w.heap.size) d1 X4∧RTexts (View.from w'.cell? w.heap.size) d2 X5:=by
  intro f hf0 hEf w' hb;subst hEf;rw[H1.out,H2.out,H3.out,H4.out,H5.out,if_pos hf0,if_pos hf0,if_pos hf0,if_pos hf0,if_pos hf0];exact⟨_,_,rfl,hb,RVec.nil _ _ _,RVec.nil _ _ _⟩
 have Fin:=Lib.hid fin;clear fin
 by_cases hF0:F=0
 ·subst hF0;have HE':Hid (E=if inB au 0 3 then(if l.length=0 then 8 else if 1048576<nx then 6 else 0)else 2):=by show _=_;rw[HE.out];rfl
  clear HE
  by_cases h1:au<0
  ·have HE2:Hid (E=2):=by show _=_;rw[HE'.out,if_neg (by simp[inB];omega)]
   go_wp2_with (refine Zj 2 hk2 ?_)
   intro w2 hA hg2;have hk3:=hk3.grown hg2 (by simp);have hbl2:=Zab hbl1 (hbl1).size hg2 (by intro k e;injection e;omega)
   go_wp2_with (refine Zj 3 hk3 ?_)
   intro w3 hB hg3;have hA:=hA.grown hg3 (by simp);have hbl3:=Zab hbl2 hbl2.size hg3 (by intro k e;injection e;omega);go_wp2;refine bodyPost_ret (Zbl rfl rfl rfl (by kernel_rfl) (by kernel_rfl) hA rfl (by kernel_rfl) (by kernel_rfl) hB rfl) rfl ?_;exact Fin.out _ (by decide) (HE2).out _ hbl3
  by_cases h2:4≤au
  ·have HE2:Hid (E=2):=by show _=_;rw[HE'.out,if_neg (by simp[inB];omega)]
   go_wp2_with (refine Zj 2 hk2 ?_)
   intro w2 hA hg2;have hk3:=hk3.grown hg2 (by simp);have hbl2:=Zab hbl1 (hbl1).size hg2 (by intro k e;injection e;omega)
   go_wp2_with (refine Zj 3 hk3 ?_)
   intro w3 hB hg3;have hA:=hA.grown hg3 (by simp);have hbl3:=Zab hbl2 hbl2.size hg3 (by intro k e;injection e;omega);go_wp2;refine bodyPost_ret (Zbl rfl rfl rfl (by kernel_rfl) (by kernel_rfl) hA rfl (by kernel_rfl) (by kernel_rfl) hB rfl) rfl ?_;exact Fin.out _ (by decide) (HE2).out _ hbl3
  have HE3:Hid (E=if l.length=0 then 8 else if 1048576<nx then 6 else 0):=by show _=_;rw[HE'.out,if_pos (by simp[inB];omega)]
  clear HE'
  by_cases h3:l.length=0
  ·have HE2:Hid (E=8):=by show _=_;rw[HE3.out,if_pos h3]
   rw[h3]at g1
   go_wp2_with (refine Zj 2 hk2 ?_)
   intro w2 hA hg2;have hk3:=hk3.grown hg2 (by simp);have hbl2:=Zab hbl1 (hbl1).size hg2 (by intro k e;injection e;omega)
   go_wp2_with (refine Zj 3 hk3 ?_)
   intro w3 hB hg3;have hA:=hA.grown hg3 (by simp);have hbl3:=Zab hbl2 hbl2.size hg3 (by intro k e;injection e;omega);go_wp2;refine bodyPost_ret (Zbl rfl rfl rfl (by kernel_rfl) (by kernel_rfl) hA rfl (by kernel_rfl) (by kernel_rfl) hB rfl) rfl ?_;exact Fin.out _ (by decide) (HE2).out _ hbl3
  by_cases h4:1048576<nx
  ·have HE2:Hid (E=6):=by show _=_;rw[HE3.out,if_neg h3,if_pos h4]
   have h3':¬(l.length:Int)=0:=by omega
   go_wp2_with (refine Zj 2 hk2 ?_)
   intro w2 hA hg2;have hk3:=hk3.grown hg2 (by simp);have hbl2:=Zab hbl1 (hbl1).size hg2 (by intro k e;injection e;omega)
   go_wp2_with (refine Zj 3 hk3 ?_)
   intro w3 hB hg3;have hA:=hA.grown hg3 (by simp);have hbl3:=Zab hbl2 hbl2.size hg3 (by intro k e;injection e;omega);go_wp2;refine bodyPost_ret (Zbl rfl rfl rfl (by kernel_rfl) (by kernel_rfl) hA rfl (by kernel_rfl) (by kernel_rfl) hB rfl) rfl ?_;exact Fin.out _ (by decide) (HE2).out _ hbl3
  have HE2:Hid (E=0):=by show _=_;rw[HE3.out,if_neg h3,if_neg h4]
  have hp1:1≤nx:=by
   have:=hF.out;simp only[Zdp]at this
   by_cases hq:1≤nx
   ·exact hq
   ·simp[inB,hq]at this
  clear HE3;have h3':¬(l.length:Int)=0:=by omega
  have hv1:=hv.mono (Zaa hbl1);obtain⟨KT,hKT⟩:∃K,Hid (l.take 4=K):=⟨_,rfl⟩;obtain⟨KD,hKD⟩:∃K,Hid (l.drop 4=K):=⟨_,rfl⟩;have hld4:KD.length*16≤140737488355328:=by rw[←hKD.out];simp;omega
  have hlt4:KT.length*16≤140737488355328:=by rw[←hKT.out];simp;omega
  have hz3:w.heap.size+3≤w1.heap.size:=by omega
  by_cases h5:4<l.length
  ·have hrd1:=hv1.take (k:=4) (by omega);have hrd2:=hv1.partP (lo:=4) (m:=l.length-4) (by omega);rw[List.take_of_length_le (by simp)]at hrd2;rw[hKT.out]at hrd1;rw[hKD.out]at hrd2;have h5':(4:Int)<l.length:=by omega
   have c1:(4:Int)≤c:=by omega
   have c2:(4:Int)≤l.length:=by omega
   have c3:(l.length:Int)≤c:=by omega
   have c4:4≤c:=by omega
   have c5:¬c=4:=by omega
   have c6:¬4=c:=by omega
   have c7:4≤l.length:=by omega
   go_upto_region 11 with fail
   go_cut [9,17,26,33] (fun p _ _ _ w'=>∃gb A' c',p=.pointer (some ⟨gb,0,none⟩)∧w1.heap.size≤gb∧Blk w' gb 53 #[.int .i64 au,.int .i64 nx,.slice A' KT.length c']∧Below w1.heap.size w1 w'∧RTexts (View.from w'.cell? w1.heap.size) (.slice A' KT.length c') KT)
   case first =>
    refine Zr [10] (.q 0 (.q 1 (.q 2 (.q 3 (.q 4 (.q 5 (.q 6 (.alt 7 (.q 8 (.l 9 (.l 10 .nil))) 9 (.l 7 (.q 8 (.l 10 .nil))))))))))) fun W hS1=>?_
    repeat((first|refine pq (h:=⟨_,fun w' hS=>by(have hq:=hk1.kept hS;have h0:=hq.cell 0;have h1:=hq.cell 1;simp at h0 h1;go_simp;exact rfl),?_⟩)|refine Zq ?_);simp only[sx])
    refine Zcl ?_ ?_
    ·refine Zd fun K hK=>?_
     try simp only[sy]
     go_simp;refine(Zbv _ KT _ ((hrd1).mono (Zaa hS1))).mono ?_;rintro e w2 ⟨d',rfl,hj,hown⟩;obtain⟨A',c',rfl⟩:=hown.form;have hb2:=hS1.trans (hj.mono hS1.size);have hz2:=hb2.size;have hr2:=hown.reads_from (bs:=16) hlt4 (b0:=w1.heap.size) hS1.size (g:=none) (by simp);refine hK.out _ _ (hb2) fun hS=>?_
     clear hK K
     try simp only[sx]
     repeat(refine Zq ?_;simp only[sx])
     refine Zd fun K hK=>?_
     try simp only[sy]
     go_simp;have hb3:=Zac w2 (.cells #[.int .i64 0,.int .i64 0,.slice none 0 0] 53);have hbl3:=hb2.trans (hb3.mono hz2);have hn:=Blk.new w2 53 #[.int .i64 0,.int .i64 0,.slice none 0 0];refine hK.out _ _ (hbl3) fun hS=>?_
     clear hK K
     try simp only[sx]
     refine Zc fun K hK=>?_
     try simp only[sy]
     refine Zh 3 hn ?_;intro w4 hB4 hg4;refine hK.out _ _ ?_;clear hK K
     try simp only[sx]
     refine Zah ?_
     go_wp2_with fail
     go_meet;exact⟨_,A',c',rfl,hz2,hB4,Zab hbl3 hbl3.size hg4 (by intro k e;injection e;omega),hr2.mono (Za0 _ ((View.but_le _ _).trans ((Zm7 hb3 (Nat.le_refl _)).trans (Zbn hg4))))⟩
    ·refine Zd fun K hK=>?_
     try simp only[sy]
     go_simp;have hb3:=Zac W (.cells #[.int .i64 0,.int .i64 0,.slice none 0 0] 53);have hbl3:=hS1.trans (hb3.mono hS1.size);have hn:=Blk.new W 53 #[.int .i64 0,.int .i64 0,.slice none 0 0];have hz1':=hS1.size;refine hK.out _ _ (hbl3) fun hS=>?_
     clear hK K
     try simp only[sx]
     refine Zd fun K hK=>?_
     try simp only[sy]
     go_simp;refine(Zbv _ KT _ ((hrd1).mono (Zaa hbl3))).mono ?_;rintro e w2 ⟨d',rfl,hj,hown⟩;obtain⟨A',c',rfl⟩:=hown.form;have hb2:=hbl3.trans (hj.mono hbl3.size);have hn2:=hn.kept hj;have hz2:=hj.size;simp at hz2;have hr2:=hown.reads_from (bs:=16) hlt4 (b0:=w1.heap.size) hbl3.size (g:=some W.heap.size) (by simp);refine hK.out _ _ (hb2) fun hS=>?_
     clear hK K
     try simp only[sx]
     repeat(refine Zq ?_;simp only[sx])
     refine Zc fun K hK=>?_
     try simp only[sy]
     refine Zh 3 hn2 ?_;intro w4 hB4 hg4;refine hK.out _ _ ?_;clear hK K
     try simp only[sx]
     refine Zah ?_
     go_wp2_with fail
     go_meet;exact⟨_,A',c',rfl,hz1',hB4,Zab hb2 hb2.size hg4 (by intro k e;injection e;omega),hr2.mono (Za0 _ (Zbn hg4))⟩
   case rest =>
    obtain⟨gb,A',c',rfl,hgb,hkb,hbc,hrb⟩:=hcut;have hk1c:=hk1.kept hbc;have hk2c:=hk2.kept hbc;have hk3c:=hk3.kept hbc;have hblc:=hbl1.trans (hbc.mono hbl1.size);have hzc:=hbc.size;have hgbl:=hkb.lt;obtain⟨nx1,hnx1⟩:∃y:Int,Hid (nx+1=y):=⟨_,rfl⟩;have e1:IntKind.i64.wrap (nx+1)=nx1:=by rw[IntKind.wrap_i64,←hnx1.out];omega
    clear g0 g1
    go_wp2_with fail
    refine Zt (fun w'=>Below wc.heap.size wc w') (fun w'=>wc.grownBy w' (some (w.heap.size+1))) [11,12] (.q 0 (.q 1 (.q 2 (.q 3 (.q 4 (.q 5 (.q 6 (.q 9 (.l 7 (.q 8 (.l 10 (.l 11 (.qc 12 .nil))))))))))))) ?_ ?_
    ·exact⟨Zad _,Zcd _ _⟩
    intro W hS0 hS1;have hS:=hS1
    repeat((first|refine pq (h:=⟨_,fun w' hS=>by(have hq:=hk1c.grown hS (by simp);have h0:=hq.cell 0;have h1:=hq.cell 1;have hq2:=hkb.grown hS (by simp;omega);have h2:=hq2.cell 0;have h3:=hq2.cell 1;have h4:=hq2.cell 2;simp at h0 h1 h2 h3 h4;go_simp;exact rfl),?_⟩)|refine Zq ?_);simp only[sx])
    refine Zd fun K hK=>?_
    try simp only[sy]
    go_simp;refine(Zbv _ KD _ ((hrd2).mono ((Zaa hbc).trans (Zaa hS0)))).mono ?_;rintro e w2 ⟨d',rfl,hj,hown⟩;obtain⟨B',e',rfl⟩:=hown.form;have hb2:=hS0.trans (hj.mono hS0.size);have hz0:=hS0.size;have hz2:=hj.size;refine hK.out _ _ (Zak _ hb2) fun hS=>?_
    clear hK K
    try simp only[sx]
    repeat(refine Zq ?_;simp only[sx])
    refine Zd fun K hK=>?_
    try simp only[sy]
    refine Zh 2 (hk2c.kept hb2) ?_;intro w3 hA hg3;have hown3:=hown.grown hg3 (by omega);have hk33:=(hk3c.kept hb2).grown hg3 (by simp);have hrb3:=((hrb.mono (Za0 _ (Zaa hb2))).mono (Zta hg3 (by omega)));refine hK.out _ _ (Zaf (Zak _ hb2) hg3) fun hS=>?_
    clear hK K
    try simp only[sx]
    refine Zc fun K hK=>?_
    try simp only[sy]
    refine Zh 3 hk33 ?_;intro w4 hB hg4;have hA:=hA.grown hg4 (by simp);have hown4:=hown3.grown hg4 (by omega);refine hK.out _ _ ?_;clear hK K
    try simp only[sx]
    repeat(refine Zq ?_;simp only[sx])
    refine Zah ?_;go_wp2;refine bodyPost_ret (Zbl rfl rfl rfl (by kernel_rfl) (by kernel_rfl) hA rfl (by kernel_rfl) (by kernel_rfl) hB rfl) rfl ?_;have hbl5:Below w.heap.size w w4:=Zab (Zab (hblc.trans (hb2.mono hblc.size)) (by omega) hg3 (by intro k e;injection e;omega)) (by have:=hg3.size;omega) hg4 (by intro k e;injection e;omega);refine⟨.slice B' KD.length e',.slice A' KT.length c',?_,hbl5,?_,?_⟩
    ·rw[H1.out,H2.out,H3.out,HE2.out,if_neg (by decide),if_neg (by decide),if_neg (by decide),hnx1.out];rfl
    ·rw[H4.out,HE2.out,if_neg (by decide),hKD.out];exact hown4.from_ (bs:=16) hld4 (by omega)
    ·rw[H5.out,HE2.out,if_neg (by decide),hKT.out];exact(hrb3.mono (Zta hg4 (by omega))).mono (Zbm (by omega))
  have h5':¬(4:Int)<l.length:=by omega
  have h6:(l.length:Int)≤4:=by omega
  have h7:min (l.length:Int) 4=l.length:=by omega
  have hrd1:=hv1;have hKT1:KT=l:=by rw[←hKT.out];exact List.take_of_length_le (by omega)
  have hKD1:KD.length=0:=by rw[←hKD.out];simp;omega
  have c3:(l.length:Int)≤c:=by omega
  have hrd1:RTexts w1.cell? (.slice A l.length c) KT:=by rw[hKT1];exact hv1
  have HKT1:=Lib.hid hKT1;clear hKT1
  by_cases hcl:l.length=c
  ·have hrd2:RTexts w1.cell? (.slice A 0 0) KD:=RVec.stubP _ _ _ _ rfl hKD1;clear hKD1;subst hcl
   go_upto_region 11 with fail
   go_cut [9,17,26,33] (fun p _ _ _ w'=>∃gb A' c',p=.pointer (some ⟨gb,0,none⟩)∧w1.heap.size≤gb∧Blk w' gb 53 #[.int .i64 au,.int .i64 nx,.slice A' KT.length c']∧Below w1.heap.size w1 w'∧RTexts (View.from w'.cell? w1.heap.size) (.slice A' KT.length c') KT)
   case first =>
    refine Zr [10] (.q 0 (.q 1 (.q 2 (.q 3 (.q 4 (.q 5 (.q 6 (.alt 7 (.q 8 (.l 9 (.l 10 .nil))) 9 (.l 7 (.q 8 (.l 10 .nil))))))))))) fun W hS1=>?_
    repeat((first|refine pq (h:=⟨_,fun w' hS=>by(have hq:=hk1.kept hS;have h0:=hq.cell 0;have h1:=hq.cell 1;simp at h0 h1;go_simp;exact rfl),?_⟩)|refine Zq ?_);simp only[sx])
    refine Zcl ?_ ?_
    ·refine Zd fun K hK=>?_
     try simp only[sy]
     go_simp;refine(Zbv _ KT _ ((hrd1).mono (Zaa hS1))).mono ?_;rintro e w2 ⟨d',rfl,hj,hown⟩;obtain⟨A',c',rfl⟩:=hown.form;have hb2:=hS1.trans (hj.mono hS1.size);have hz2:=hb2.size;have hr2:=hown.reads_from (bs:=16) hlt4 (b0:=w1.heap.size) hS1.size (g:=none) (by simp);refine hK.out _ _ (hb2) fun hS=>?_
     clear hK K
     try simp only[sx]
     repeat(refine Zq ?_;simp only[sx])
     refine Zd fun K hK=>?_
     try simp only[sy]
     go_simp;have hb3:=Zac w2 (.cells #[.int .i64 0,.int .i64 0,.slice none 0 0] 53);have hbl3:=hb2.trans (hb3.mono hz2);have hn:=Blk.new w2 53 #[.int .i64 0,.int .i64 0,.slice none 0 0];refine hK.out _ _ (hbl3) fun hS=>?_
     clear hK K
     try simp only[sx]
     refine Zc fun K hK=>?_
     try simp only[sy]
     refine Zh 3 hn ?_;intro w4 hB4 hg4;refine hK.out _ _ ?_;clear hK K
     try simp only[sx]
     refine Zah ?_
     go_wp2_with fail
     go_meet;exact⟨_,A',c',rfl,hz2,hB4,Zab hbl3 hbl3.size hg4 (by intro k e;injection e;omega),hr2.mono (Za0 _ ((View.but_le _ _).trans ((Zm7 hb3 (Nat.le_refl _)).trans (Zbn hg4))))⟩
    ·refine Zd fun K hK=>?_
     try simp only[sy]
     go_simp;have hb3:=Zac W (.cells #[.int .i64 0,.int .i64 0,.slice none 0 0] 53);have hbl3:=hS1.trans (hb3.mono hS1.size);have hn:=Blk.new W 53 #[.int .i64 0,.int .i64 0,.slice none 0 0];have hz1':=hS1.size;refine hK.out _ _ (hbl3) fun hS=>?_
     clear hK K
     try simp only[sx]
     refine Zd fun K hK=>?_
     try simp only[sy]
     go_simp;refine(Zbv _ KT _ ((hrd1).mono (Zaa hbl3))).mono ?_;rintro e w2 ⟨d',rfl,hj,hown⟩;obtain⟨A',c',rfl⟩:=hown.form;have hb2:=hbl3.trans (hj.mono hbl3.size);have hn2:=hn.kept hj;have hz2:=hj.size;simp at hz2;have hr2:=hown.reads_from (bs:=16) hlt4 (b0:=w1.heap.size) hbl3.size (g:=some W.heap.size) (by simp);refine hK.out _ _ (hb2) fun hS=>?_
     clear hK K
     try simp only[sx]
     repeat(refine Zq ?_;simp only[sx])
     refine Zc fun K hK=>?_
     try simp only[sy]
     refine Zh 3 hn2 ?_;intro w4 hB4 hg4;refine hK.out _ _ ?_;clear hK K
     try simp only[sx]
     refine Zah ?_
     go_wp2_with fail
     go_meet;exact⟨_,A',c',rfl,hz1',hB4,Zab hb2 hb2.size hg4 (by intro k e;injection e;omega),hr2.mono (Za0 _ (Zbn hg4))⟩
   case rest =>
    obtain⟨gb,A',c',rfl,hgb,hkb,hbc,hrb⟩:=hcut;have hk1c:=hk1.kept hbc;have hk2c:=hk2.kept hbc;have hk3c:=hk3.kept hbc;have hblc:=hbl1.trans (hbc.mono hbl1.size);have hzc:=hbc.size;have hgbl:=hkb.lt;obtain⟨nx1,hnx1⟩:∃y:Int,Hid (nx+1=y):=⟨_,rfl⟩;have e1:IntKind.i64.wrap (nx+1)=nx1:=by rw[IntKind.wrap_i64,←hnx1.out];omega
    clear g0 g1
    go_wp2_with fail
    refine Zt (fun w'=>Below wc.heap.size wc w') (fun w'=>wc.grownBy w' (some (w.heap.size+1))) [11,12] (.q 0 (.q 1 (.q 2 (.q 3 (.q 4 (.q 5 (.q 6 (.q 9 (.l 7 (.q 8 (.l 10 (.l 11 (.qc 12 .nil))))))))))))) ?_ ?_
    ·exact⟨Zad _,Zcd _ _⟩
    intro W hS0 hS1;have hS:=hS1
    repeat((first|refine pq (h:=⟨_,fun w' hS=>by(have hq:=hk1c.grown hS (by simp);have h0:=hq.cell 0;have h1:=hq.cell 1;have hq2:=hkb.grown hS (by simp;omega);have h2:=hq2.cell 0;have h3:=hq2.cell 1;have h4:=hq2.cell 2;simp at h0 h1 h2 h3 h4;go_simp;exact rfl),?_⟩)|refine Zq ?_);simp only[sx])
    refine Zd fun K hK=>?_
    try simp only[sy]
    go_simp;refine(Zbv _ KD _ ((hrd2).mono ((Zaa hbc).trans (Zaa hS0)))).mono ?_;rintro e w2 ⟨d',rfl,hj,hown⟩;obtain⟨B',e',rfl⟩:=hown.form;have hb2:=hS0.trans (hj.mono hS0.size);have hz0:=hS0.size;have hz2:=hj.size;refine hK.out _ _ (Zak _ hb2) fun hS=>?_
    clear hK K
    try simp only[sx]
    repeat(refine Zq ?_;simp only[sx])
    refine Zd fun K hK=>?_
    try simp only[sy]
    refine Zh 2 (hk2c.kept hb2) ?_;intro w3 hA hg3;have hown3:=hown.grown hg3 (by omega);have hk33:=(hk3c.kept hb2).grown hg3 (by simp);have hrb3:=((hrb.mono (Za0 _ (Zaa hb2))).mono (Zta hg3 (by omega)));refine hK.out _ _ (Zaf (Zak _ hb2) hg3) fun hS=>?_
    clear hK K
    try simp only[sx]
    refine Zc fun K hK=>?_
    try simp only[sy]
    refine Zh 3 hk33 ?_;intro w4 hB hg4;have hA:=hA.grown hg4 (by simp);have hown4:=hown3.grown hg4 (by omega);refine hK.out _ _ ?_;clear hK K
    try simp only[sx]
    repeat(refine Zq ?_;simp only[sx])
    refine Zah ?_;go_wp2;refine bodyPost_ret (Zbl rfl rfl rfl (by kernel_rfl) (by kernel_rfl) hA rfl (by kernel_rfl) (by kernel_rfl) hB rfl) rfl ?_;have hbl5:Below w.heap.size w w4:=Zab (Zab (hblc.trans (hb2.mono hblc.size)) (by omega) hg3 (by intro k e;injection e;omega)) (by have:=hg3.size;omega) hg4 (by intro k e;injection e;omega);refine⟨.slice B' KD.length e',.slice A' KT.length c',?_,hbl5,?_,?_⟩
    ·rw[H1.out,H2.out,H3.out,HE2.out,if_neg (by decide),if_neg (by decide),if_neg (by decide),hnx1.out];rfl
    ·rw[H4.out,HE2.out,if_neg (by decide),hKD.out];exact hown4.from_ (bs:=16) hld4 (by omega)
    ·rw[H5.out,HE2.out,if_neg (by decide),hKT.out];exact(hrb3.mono (Zta hg4 (by omega))).mono (Zbm (by omega))
  ·have hrd2:=hv1.partP (lo:=l.length) (m:=0) (by omega);have hcl1:¬c=l.length:=by omega
   have hcl2:¬(l.length:Int)=c:=by omega
   rw[show(l.drop l.length).take 0=KD from by rw[List.take_zero];exact(List.eq_nil_of_length_eq_zero hKD1).symm]at hrd2;clear hKD1
   go_upto_region 11 with fail
   go_cut [9,17,26,33] (fun p _ _ _ w'=>∃gb A' c',p=.pointer (some ⟨gb,0,none⟩)∧w1.heap.size≤gb∧Blk w' gb 53 #[.int .i64 au,.int .i64 nx,.slice A' KT.length c']∧Below w1.heap.size w1 w'∧RTexts (View.from w'.cell? w1.heap.size) (.slice A' KT.length c') KT)
   case first =>
    refine Zr [10] (.q 0 (.q 1 (.q 2 (.q 3 (.q 4 (.q 5 (.q 6 (.alt 7 (.q 8 (.l 9 (.l 10 .nil))) 9 (.l 7 (.q 8 (.l 10 .nil))))))))))) fun W hS1=>?_
    repeat((first|refine pq (h:=⟨_,fun w' hS=>by(have hq:=hk1.kept hS;have h0:=hq.cell 0;have h1:=hq.cell 1;simp at h0 h1;go_simp;exact rfl),?_⟩)|refine Zq ?_);simp only[sx])
    refine Zcl ?_ ?_
    ·refine Zd fun K hK=>?_
     try simp only[sy]
     go_simp;refine(Zbv _ KT _ ((hrd1).mono (Zaa hS1))).mono ?_;rintro e w2 ⟨d',rfl,hj,hown⟩;obtain⟨A',c',rfl⟩:=hown.form;have hb2:=hS1.trans (hj.mono hS1.size);have hz2:=hb2.size;have hr2:=hown.reads_from (bs:=16) hlt4 (b0:=w1.heap.size) hS1.size (g:=none) (by simp);refine hK.out _ _ (hb2) fun hS=>?_
     clear hK K
     try simp only[sx]
     repeat(refine Zq ?_;simp only[sx])
     refine Zd fun K hK=>?_
     try simp only[sy]
     go_simp;have hb3:=Zac w2 (.cells #[.int .i64 0,.int .i64 0,.slice none 0 0] 53);have hbl3:=hb2.trans (hb3.mono hz2);have hn:=Blk.new w2 53 #[.int .i64 0,.int .i64 0,.slice none 0 0];refine hK.out _ _ (hbl3) fun hS=>?_
     clear hK K
     try simp only[sx]
     refine Zc fun K hK=>?_
     try simp only[sy]
     refine Zh 3 hn ?_;intro w4 hB4 hg4;refine hK.out _ _ ?_;clear hK K
     try simp only[sx]
     refine Zah ?_
     go_wp2_with fail
     go_meet;exact⟨_,A',c',rfl,hz2,hB4,Zab hbl3 hbl3.size hg4 (by intro k e;injection e;omega),hr2.mono (Za0 _ ((View.but_le _ _).trans ((Zm7 hb3 (Nat.le_refl _)).trans (Zbn hg4))))⟩
    ·refine Zd fun K hK=>?_
     try simp only[sy]
     go_simp;have hb3:=Zac W (.cells #[.int .i64 0,.int .i64 0,.slice none 0 0] 53);have hbl3:=hS1.trans (hb3.mono hS1.size);have hn:=Blk.new W 53 #[.int .i64 0,.int .i64 0,.slice none 0 0];have hz1':=hS1.size;refine hK.out _ _ (hbl3) fun hS=>?_
     clear hK K
     try simp only[sx]
     refine Zd fun K hK=>?_
     try simp only[sy]
     go_simp;refine(Zbv _ KT _ ((hrd1).mono (Zaa hbl3))).mono ?_;rintro e w2 ⟨d',rfl,hj,hown⟩;obtain⟨A',c',rfl⟩:=hown.form;have hb2:=hbl3.trans (hj.mono hbl3.size);have hn2:=hn.kept hj;have hz2:=hj.size;simp at hz2;have hr2:=hown.reads_from (bs:=16) hlt4 (b0:=w1.heap.size) hbl3.size (g:=some W.heap.size) (by simp);refine hK.out _ _ (hb2) fun hS=>?_
     clear hK K
     try simp only[sx]
     repeat(refine Zq ?_;simp only[sx])
     refine Zc fun K hK=>?_
     try simp only[sy]
     refine Zh 3 hn2 ?_;intro w4 hB4 hg4;refine hK.out _ _ ?_;clear hK K
     try simp only[sx]
     refine Zah ?_
     go_wp2_with fail
     go_meet;exact⟨_,A',c',rfl,hz1',hB4,Zab hb2 hb2.size hg4 (by intro k e;injection e;omega),hr2.mono (Za0 _ (Zbn hg4))⟩
   case rest =>
    obtain⟨gb,A',c',rfl,hgb,hkb,hbc,hrb⟩:=hcut;have hk1c:=hk1.kept hbc;have hk2c:=hk2.kept hbc;have hk3c:=hk3.kept hbc;have hblc:=hbl1.trans (hbc.mono hbl1.size);have hzc:=hbc.size;have hgbl:=hkb.lt;obtain⟨nx1,hnx1⟩:∃y:Int,Hid (nx+1=y):=⟨_,rfl⟩;have e1:IntKind.i64.wrap (nx+1)=nx1:=by rw[IntKind.wrap_i64,←hnx1.out];omega
    clear g0 g1
    go_wp2_with fail
    refine Zt (fun w'=>Below wc.heap.size wc w') (fun w'=>wc.grownBy w' (some (w.heap.size+1))) [11,12] (.q 0 (.q 1 (.q 2 (.q 3 (.q 4 (.q 5 (.q 6 (.q 9 (.l 7 (.q 8 (.l 10 (.l 11 (.qc 12 .nil))))))))))))) ?_ ?_
    ·exact⟨Zad _,Zcd _ _⟩
    intro W hS0 hS1;have hS:=hS1
    repeat((first|refine pq (h:=⟨_,fun w' hS=>by(have hq:=hk1c.grown hS (by simp);have h0:=hq.cell 0;have h1:=hq.cell 1;have hq2:=hkb.grown hS (by simp;omega);have h2:=hq2.cell 0;have h3:=hq2.cell 1;have h4:=hq2.cell 2;simp at h0 h1 h2 h3 h4;go_simp;exact rfl),?_⟩)|refine Zq ?_);simp only[sx])
    refine Zd fun K hK=>?_
    try simp only[sy]
    go_simp;refine(Zbv _ KD _ ((hrd2).mono ((Zaa hbc).trans (Zaa hS0)))).mono ?_;rintro e w2 ⟨d',rfl,hj,hown⟩;obtain⟨B',e',rfl⟩:=hown.form;have hb2:=hS0.trans (hj.mono hS0.size);have hz0:=hS0.size;have hz2:=hj.size;refine hK.out _ _ (Zak _ hb2) fun hS=>?_
    clear hK K
    try simp only[sx]
    repeat(refine Zq ?_;simp only[sx])
    refine Zd fun K hK=>?_
    try simp only[sy]
    refine Zh 2 (hk2c.kept hb2) ?_;intro w3 hA hg3;have hown3:=hown.grown hg3 (by omega);have hk33:=(hk3c.kept hb2).grown hg3 (by simp);have hrb3:=((hrb.mono (Za0 _ (Zaa hb2))).mono (Zta hg3 (by omega)));refine hK.out _ _ (Zaf (Zak _ hb2) hg3) fun hS=>?_
    clear hK K
    try simp only[sx]
    refine Zc fun K hK=>?_
    try simp only[sy]
    refine Zh 3 hk33 ?_;intro w4 hB hg4;have hA:=hA.grown hg4 (by simp);have hown4:=hown3.grown hg4 (by omega);refine hK.out _ _ ?_;clear hK K
    try simp only[sx]
    repeat(refine Zq ?_;simp only[sx])
    refine Zah ?_;go_wp2;refine bodyPost_ret (Zbl rfl rfl rfl (by kernel_rfl) (by kernel_rfl) hA rfl (by kernel_rfl) (by kernel_rfl) hB rfl) rfl ?_;have hbl5:Below w.heap.size w w4:=Zab (Zab (hblc.trans (hb2.mono hblc.size)) (by omega) hg3 (by intro k e;injection e;omega)) (by have:=hg3.size;omega) hg4 (by intro k e;injection e;omega);refine⟨.slice B' KD.length e',.slice A' KT.length c',?_,hbl5,?_,?_⟩
    ·rw[H1.out,H2.out,H3.out,HE2.out,if_neg (by decide),if_neg (by decide),if_neg (by decide),hnx1.out];rfl
    ·rw[H4.out,HE2.out,if_neg (by decide),hKD.out];exact hown4.from_ (bs:=16) hld4 (by omega)
    ·rw[H5.out,HE2.out,if_neg (by decide),hKT.out];exact(hrb3.mono (Zta hg4 (by omega))).mono (Zbm (by omega))
 ·have HE2:Hid (E=F):=by show _=_;rw[HE.out,if_pos hF0]
  go_wp2_with (refine Zj 2 hk2 ?_)
  intro w2 hA hg2;have hk3:=hk3.grown hg2 (by simp);have hbl2:=Zab hbl1 (hbl1).size hg2 (by intro k e;injection e;omega)
  go_wp2_with (refine Zj 3 hk3 ?_)
  intro w3 hB hg3;have hA:=hA.grown hg3 (by simp);have hbl3:=Zab hbl2 hbl2.size hg3 (by intro k e;injection e;omega);go_wp2;refine bodyPost_ret (Zbl rfl rfl rfl (by kernel_rfl) (by kernel_rfl) hA rfl (by kernel_rfl) (by kernel_rfl) hB rfl) rfl ?_;exact Fin.out _ hF0 (HE2).out _ hbl3
end Go.Proofs.YtinibgklgehdpaaGreatDoor
