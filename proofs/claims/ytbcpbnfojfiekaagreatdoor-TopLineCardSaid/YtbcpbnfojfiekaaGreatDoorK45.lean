/- A part of what the last text stands on. -/
import Derived.SevenTiedAt
import Derived.Carry
import Derived.Test.YtbcpbnfojfiekaaGreatDoorCards
import Derived.Test.YtbcpbnfojfiekaaGreatDoorTie
import Derived.Test.YtbcpbnfojfiekaaGreatDoorK42
import Derived.Test.YtbcpbnfojfiekaaGreatDoorK43
import Derived.Test.YtbcpbnfojfiekaaGreatDoorK44
namespace Go.Proofs.YtbcpbnfojfiekaaGreatDoor
open Go.ChangeShapes Go.WideShapes Go.ChangeAt Go.RowKit Go.Proofs.Tryz Qa Qb Qc
set_option linter.all false
set_option maxHeartbeats 20000000
set_option maxRecDepth 100000
variable{w w' W:World}{v:Value}{cs:Array Value}{h:View}{e:TypeId}{k g sz bs b:Nat}{f:Fl.Ft}{α:Type}{xs:List α}{R:View→List Value→α→Prop}
namespace Fl
theorem find_at{l:List At}{p:At→Bool}(b:k<l.length)(c:∀a∈l.take k,p a=false)(hp:p l[k]=true):l.find? p=some l[k]:=by
 have e:l=l.take k++l[k]::l.drop (k+1):=by rw[←List.drop_eq_getElem_cons b,List.take_append_drop]
 refine(congrArg (List.find? p) e).trans ?_;rw[List.find?_append,List.find?_eq_none.2 (fun a d=>by simp[c a d]),List.find?_cons_of_pos hp];rfl
def ROc(h:View)(cs:List Value)(x:Oc):Prop:=∃vv vs vc,cs=[vv,vs,.int .i64 x.away,vc]∧RSl 6 RVw 112 h vv x.nodes∧RSigns h vs x.signs∧RIs h vc x.codes
def oc0:Oc:=⟨[],[],0,[]⟩
theorem ROc.zero(h:View):ROc h [.slice none 0 0,.slice none 0 0,.int .i64 0,.slice none 0 0] oc0:=⟨_,_,_,rfl,RSl.nil _ _ _ _,RSl.nil _ _ _ _,RVec.nil _ _ _⟩
theorem Zu7{wa:World}{gf:Nat}{t:Nat×Nat}(c:Below gf wa w)(d:wa.heap.size≤gf):VLe wa.cell? (Zas (Fl.mark (fun _=>none) gf (some t)) w):=fun a v e=>by
 have b:=World.block_lt_of_cell? wa a e
 unfold Zas Fl.mark
 rw[if_neg (by rw[if_neg (by omega)];simp)]
 exact(World.cell?_of_block (c.block a.block (by omega))).trans e
theorem fr_low{o o':Own}{B:Nat}(c:∀b,b<B→o b=none)(a:Fr All o w o' w')(e:B≤w.heap.size):Below B w w' :=
 ⟨a.os,a.tape,a.output,a.size,fun k d=>(a.keep k (by omega) (fun t ht=>by rw[c k d]at ht;cases ht)).2⟩
theorem fr_new{o o':Own}{B:Nat}(a:∀b,b<B→o b=none)(c:Fr All o w o' w')(e:B≤w.heap.size){t:Nat×Nat}(d:o' g=some t):B≤g:=by
 rcases Nat.lt_or_ge g B with h|h
 ·have:=(c.keep g (by omega) (fun t ht=>by rw[a g h]at ht;cases ht)).1;rw[a g h,d]at this;cases this
 ·exact h
theorem Zew(f:Ft):(Zhx f).length=4:=rfl
theorem Zud(a:k<4):(Zhx f).take (k+1)=(Zhx f).take k++[if (k:Int)=f.rogue then vw0 else view (Zav f k)]:=by
 rw[Zn (by rw[Zew];exact a)];have:k=0∨k=1∨k=2∨k=3:=by omega
 rcases this with rfl|rfl|rfl|rfl<;>rfl
theorem elemView:Elem prog 31 44 6 112:=Zo4 (z:=.agg #[.bool false,.int .i64 0,.slice none 0 0,.slice none 0 0,.slice none 0 0,.slice none 0 0]) underlying31 (by kernel_rfl) rfl (by decide)
theorem Row.from_{o:Own}{t:Nat×Nat}(f:∀h d cs x,R h cs x→R d cs x){B:Nat}(h:Row o t sz R e w v xs)(a:xs.length*bs≤140737488355328)(u:∀g,o g=some t→B≤g):RSl sz R bs (View.from w.cell? B) v xs:=by
 obtain⟨A,c,e,k,s,p,l,n⟩:=h.reads (fun h d cs x r _=>f h d cs x r) a;subst e;refine⟨A,c,rfl,k,s,p,l,fun hp=>?_⟩;obtain⟨b,o1,ea,q⟩:=n hp;have y:B≤b:=u b (h.mark b (by rw[ea];rfl));refine⟨b,o1,ea,fun i hi=>?_⟩;obtain⟨cs,q1,q2,q3⟩:=q i hi;refine⟨cs,q1,fun j m=>?_,f _ _ _ _ q3⟩;unfold View.from;rw[if_neg (by show ¬b<B;omega)];exact q2 j m
theorem run_any(rogue:Int)(v:Value)(l:List At)(w:World)(hl:RAts w.cell? v l)(hs:∀a∈l,a.text.size≤140737488355328)(hT:Tabs w.cell?) :
 Calls prog 20 #[.int .i64 rogue,v] w fun e w'=>∃cs:Array Value,e=.returned (.tuple #[.agg cs,.int .i64 (runE rogue l)])∧Below w.heap.size w w'∧ROc (View.from w'.cell? w.heap.size) cs.toList (if runE rogue l=0 then Zjk (run rogue l)else oc0):=by
 obtain⟨lA,lc,rfl,-⟩:=id hl;obtain⟨E,hE⟩:∃E,Hid (runE rogue l=E):=⟨_,rfl⟩;obtain⟨O,hO⟩:∃O,Hid ((if E=0 then Zjk (run rogue l)else oc0)=O):=⟨_,rfl⟩;rw[hE.out,hO.out];go_enter func20,ntmps20;go_upto_region 1 with fail;refine Zo fun W0 hj cz m=>?_
 by_cases hr:inB rogue (-1) 3=true
 rotate_left
 ·have i:Hid (E=2):=by show _=_;rw[←hE.out];unfold runE;simp[hr]
  have I:Hid (O=oc0):=by show _=_;rw[←hO.out,i.out];rfl
  have hf:rogue< -1∨¬rogue< -1∧4≤rogue:=by
   by_cases h:rogue< -1
   ·exact .inl h
   ·refine .inr ⟨h,?_⟩;have:¬(-1≤rogue∧rogue≤3):=fun hh=>hr (by unfold inB;simp;omega)
    omega
  clear hE hO hr hl hs
  rcases hf with h1|⟨h1,h4⟩ <;>
  ·go_wp2_with (refine Zj 4 hj ?_);intro w2 sk sr
   go_wp2;refine bodyPost_ret (Zag rfl rfl (by kernel_rfl) (by kernel_rfl) sk rfl) rfl ?_;refine⟨_,by rw[i.out];rfl,Zab m m.size sr (by intro k e;injection e;omega),?_⟩;rw[I.out];exact ROc.zero _
 have hf:¬rogue< -1∧¬4≤rogue:=by unfold inB at hr;simp at hr;omega
 have dh:¬rogue< -1:=hf.1;have dm:¬4≤rogue:=hf.2
 by_cases R:3000<l.length
 ·have i:Hid (E=1):=by show _=_;rw[←hE.out];unfold runE;rw[if_neg (by simp[hr]),if_pos R]
  have I:Hid (O=oc0):=by show _=_;rw[←hO.out,i.out];rfl
  have bz:(l.length:Int)>3000:=by omega
  clear hE hO hr hl hs hf R;go_wp2_with (refine Zj 4 hj ?_);intro w2 sk sr;go_wp2;refine bodyPost_ret (Zag rfl rfl (by kernel_rfl) (by kernel_rfl) sk rfl) rfl ?_;refine⟨_,by rw[i.out];rfl,Zab m m.size sr (by intro k e;injection e;omega),?_⟩;rw[I.out];exact ROc.zero _
 have i:Hid (E=match l.find? (fun a=>actE a != 0)with|some a=>actE a|none=>0):=by show _=_;rw[←hE.out];unfold runE;rw[if_neg (by simp[hr]),if_neg R];cases l.find? (fun a=>actE a != 0)<;>rfl
 have bz:¬(l.length:Int)>3000:=by omega
 obtain⟨_,dn,df,av⟩:=RAts.at (hl.mono RAt.mono (Zaa m));have sv:=Zb av;have Hs:=Zb hs;have s5:=Zb R;have bp:=Zb (hl.mono RAt.mono (Zaa m));have cq:=Zb (hT.mono (Zaa m));have Hr:=Zb hr;have ap:=m.size;clear av hs hl R hf;go_wp2_with fail
 go_loopw [7,8,31] (fun _ _ j wr=>∃k:Nat,k≤l.length∧j=.int .i64 k∧(∀a∈l.take k,actE a=0)∧Below W0.heap.size W0 wr) (fun _ _ j _=>l.length-(intOf j).toNat)
 case atStart=>exact⟨0,Zf _,rfl,by simp,Zm _ _⟩
 case round =>
  obtain⟨k,hk,rfl,bh,G⟩:=hrel;have gm:=Zb bh;clear bh;have gg:=G.size
  by_cases d:k<l.length
  ·obtain⟨b0,o0,rfl,q0,q1,q2,q3⟩:=sv.out k d;have c0:=Zaa G _ _ q0;have c1:=Zaa G _ _ q1;have c2:=Zaa G _ _ q2;have c3:=Zaa G _ _ q3;have Hk:=Zb (List.getElem_mem d);have ck:=Hs.out _ Hk.out;have Hn:=Zb (Zn d);have z:(k:Int)<l.length:=by omega
   have ai:(k:Int)<3000:=by have:=s5.out;omega
   have Hf:Hid (actE l[k]≠0→l.find? (fun a=>actE a != 0)=some l[k]):=by
    show _→_;intro co;exact find_at d (fun a ha=>by simpa using gm.out a ha) (by simpa using co)
   generalize l[k]=a at *;obtain⟨AE,hz⟩:∃x,Hid (actE a=x):=⟨_,rfl⟩;have sp:=fun w'=>Zfq a.kind a.node a.pick a.text w' ck
   rw[show actF a.kind a.node a.pick a.text=AE from hz.out]at sp;clear q0 q1 q2 q3;go_wp2_with fail;refine(sp _).mono ?_;rintro e w2 ⟨rfl,c6⟩;have P:=Zac wr (.cells #[.int .i64 a.kind,.int .i64 a.node,.int .i64 a.pick,.string a.text] 48);have gs:Below W0.heap.size W0 w2:=G.trans ((P.trans (c6.mono P.size)).mono gg);clear P
   by_cases h0:AE=0
   ·go_wp2;go_roundw
    case rel=>exact⟨k+1,by omega,by go_num,(by
     intro x hx;rw[Hn.out,List.mem_append]at hx
     rcases hx with hx|hx
     ·exact gm.out x hx
     ·rw[Zv hx,hz.out];exact h0),gs⟩
    case measure=>simp[intOf];omega
   ·have g4:Hid (E=AE):=by
     show _=_;rw[i.out,Hf.out (by rw[hz.out];exact h0)];exact hz.out
    have I:Hid (O=oc0):=by show _=_;rw[←hO.out,g4.out,if_neg h0]
    have s:=hj.kept gs;have dd:(AE==0)=false:=by simpa using h0
    have db:=gs.size;clear hE i hO Hf sv hz sp;go_wp2_with (refine Zj 4 s ?_);intro w3 cu cv;go_wp2;refine bodyPost_ret (Zag rfl rfl (by kernel_rfl) (by kernel_rfl) cu rfl) rfl ?_;refine⟨_,by rw[g4.out];rfl,Zab (m.trans (gs.mono ap)) (by omega) cv (by intro k e;injection e;omega),?_⟩;rw[I.out];exact ROc.zero _
  ·have g6:k=l.length:=by omega
   have z:¬(k:Int)<l.length:=by omega
   have sq:Hid (∀a∈l,actE a=0):=by
    show ∀a∈l,_;intro a ha;exact gm.out a (by rw[g6,List.take_length];exact ha)
   have g4:Hid (E=0):=by
    show _=_;rw[i.out,List.find?_eq_none.2 (fun a ha=>by simp[sq.out a ha])]
   have I:Hid (O=Zjk (run rogue l)):=by show _=_;rw[←hO.out,if_pos g4.out]
   clear hE i hO g6 gm;obtain⟨wa,ct⟩:∃wa:World,wa=wr:=⟨_,rfl⟩;subst ct;go_upto_region 13 with fail;refine Zo fun W1 g1 b1 bc=>?_
   have g1:Blk W1 wa.heap.size 116 (stC rogue 0).toArray:=g1;have c7:W0.heap.size≤wa.heap.size:=gg;have bt:l.length≤3000:=by have:=s5.out;omega
   obtain⟨gf,gr⟩:∃gf,Hid (wa.heap.size=gf):=⟨_,rfl⟩;rw[gr.out]at g1 c7⊢;have Z:Below gf wa W1:=gr.out▸bc;have gb:Below W0.heap.size W0 wa:=G;clear bc b1 gg G sv z hk;go_wp2_with fail
   go_loopw [10,45] (fun _ j wr=>∃k:Nat,k≤4∧j=.int .i64 k∧Blk wr gf 116 (stC rogue k).toArray∧Below gf wa wr) (fun _ j _=>4-(intOf j).toNat)
   case atStart=>exact⟨0,by omega,rfl,g1,Z⟩
   case round =>
    clear g1 Z;obtain⟨k,hk,rfl,hB,Z⟩:=hrel;have gg:=Z.size
    by_cases d:k<4
    ·have h4:k=0∨k=1∨k=2∨k=3:=by omega
     obtain⟨kk,sz⟩:∃kk:Nat,Hid (kk=k+1):=⟨_,rfl⟩;have gl:gf≤wr.heap.size:=by have:=gr.out;omega
     clear d hk
     rcases h4 with rfl|rfl|rfl|rfl
     all_goals
      go_upto_region 16 with fail;refine Zt (fun w'=>Below wr.heap.size wr w') (fun w'=>Below wr.heap.size wr w') [7] (.q 0 (.q 1 (.q 2 (.q 4 (.q 5 (.l 3 (.q 6 (.l 7 .nil)))))))) ?_ ?_
      ·exact⟨Zad _,Zad _⟩
      intro W3 _ Q
      repeat(refine Zq ?_;simp only[sx])
      refine Zd fun K hK=>?_
      try simp only[sy]
      go_simp;refine(Zqw _ _).mono ?_;rintro e w5 ⟨rfl,g0⟩;have D:=Q.trans (g0.mono Q.size);have J:=hB.kept D;refine hK.out _ _ (D) fun hS=>?_
      clear hK K
      try simp only[sx]
      repeat(refine Zq ?_;simp only[sx])
      refine Zc fun K hK=>?_
      try simp only[sy]
      refine Zau (n:=15) rfl rfl rfl (by kernel_rfl) rfl J (Nat.le_of_ble_eq_true rfl) rfl ?_;intro w7 aj gd;have ss:Below gf wa w7:=Zab (Z.trans (D.mono gl)) (by have:=D.size;omega) gd (by intro q e;injection e;omega);refine hK.out _ _ ?_;clear hK K
      try simp only[sx]
      repeat(refine Zq ?_;simp only[sx])
      refine Zai ?_
      have bu:Blk w7 gf 116 (stC rogue kk).toArray:=by
       have e:=sz.out;subst e;exact aj
      clear aj hB J;go_wp2;go_roundw
      case rel=>exact⟨kk,by have:=sz.out;omega,by rw[sz.out];go_num,bu,ss⟩
      case measure=>simp[intOf]
    ·have h4:k=4:=by omega
     subst h4;have gy:=FtAt.start (rogue:=rogue) hB;have si:=Zu7 (t:=(8,0)) Z (Nat.le_of_eq gr.out);have sj:∀b,b<gf→Fl.mark (fun _=>none) gf (some (8,0)) b=none:=fun b hb=>by unfold Fl.mark;rw[if_neg (by omega)]
     obtain⟨o0,an⟩:∃o,Fl.mark (fun _=>none) gf (some (8,0))=o:=⟨_,rfl⟩;rw[an]at gy si sj;clear an;have b9:=Zb sj;have ag:=Zb si;have gl:gf≤wr.heap.size:=by have:=hB.lt;omega
     clear sj si hB;obtain⟨w1,bx⟩:∃w1:World,w1=wr:=⟨_,rfl⟩;subst bx;have bb:RAts (Zas o0 w1) (.slice lA l.length lc) l:=bp.out.mono RAt.mono ((Zaa gb).trans ag.out);obtain⟨_,_,_,s4⟩:=RAts.at bb;have s9:=Zb s4;have HT:=Zb (cq.out.mono ((Zaa gb).trans ag.out))
     have HM:Hid (∀k,MI ((l.take k).foldl Fl.doA (Fl.start rogue))∧((l.take k).foldl Fl.doA (Fl.start rogue)).signs.length≤1000000000∧((l.take k).foldl Fl.doA (Fl.start rogue)).codes.length≤1000000000):=by
      show ∀k,_;intro k;have b6:∀a∈l.take k,AOk a:=fun a ha=>Zy1 (sq.out a (List.mem_of_mem_take ha))
      have h1:=Zni (l.take k) (Fl.start rogue) b6 (MI.start Hr.out);have h2:=Zny (l.take k) (Fl.start rogue);have h3:(l.take k).length≤3000:=by rw[List.length_take];omega
      have h4:(Fl.start rogue).signs.length=0:=rfl;have h5:(Fl.start rogue).codes.length=0:=rfl;exact⟨MI.fold _ b6 (MI.start Hr.out),by omega,by omega⟩
     clear bb s4;go_wp2_with fail
     go_loopw [12,58] (fun _ j wr=>∃(k:Nat) (o':Own),k≤l.length∧j=.int .i64 k∧FtAt o' wr gf ((l.take k).foldl Fl.doA (Fl.start rogue))∧Fr All o0 w1 o' wr) (fun _ j _=>l.length-(intOf j).toNat)
     case atStart=>exact⟨0,o0,by omega,rfl,gy,.refl _ gy.lim⟩
     case round =>
      clear gy;obtain⟨k,o',hk,rfl,hF,he⟩:=hrel
      by_cases d:k<l.length
      ·obtain⟨b0,o1,rfl,q0,q1,q2,q3⟩:=s9.out k d;have h9:=he.view;have c0:=Zah _ _ _ _ (h9 _ _ q0);have c1:=Zah _ _ _ _ (h9 _ _ q1);have c2:=Zah _ _ _ _ (h9 _ _ q2);have c3:=Zah _ _ _ _ (h9 _ _ q3);have z:(k:Int)<l.length:=by omega
       have ai:(k:Int)<3000:=by omega
       have Hn:Hid ((l.take (k+1)).foldl Fl.doA (Fl.start rogue)=Fl.doA ((l.take k).foldl Fl.doA (Fl.start rogue)) l[k]):=by
        show _=_;rw[Zn d,List.foldl_append];rfl
       have gi:=Zb (HM.out k);have Ha:=Zb (sq.out l[k] (List.getElem_mem d));generalize (l.take k).foldl Fl.doA (Fl.start rogue)=F at hF Hn gi;generalize l[k]=a at *;have gp:=Zb (HT.out.mono h9);have s7:=hF.lim;have P:=Zac wr (.cells #[.int .i64 a.kind,.int .i64 a.node,.int .i64 a.pick,.string a.text] 48);have ak:=hF.below P;have ae:=gp.out.mono (Zaf s7 P);have b7:=Fr.of_below (T:=All) s7 P;clear q0 q1 q2 q3 h9;go_wp2_with fail;refine(do_any gf F a o' _ ak ae gi.out.1 Ha.out gi.out.2.1 gi.out.2.2).mono ?_;rintro e w3 ⟨rfl,o3,bf,bg⟩;have aa:=All.trans (All.trans he b7) bf;rw[←Hn.out]at bg;clear ak ae b7 P c0 c1 c2 c3;go_wp2;go_roundw
       case rel=>exact⟨k+1,o3,by omega,by go_num,bg,aa⟩
       case measure=>simp[intOf];omega
      ·have z:¬(k:Int)<l.length:=by omega
       have g6:k=l.length:=by omega
       rw[g6,List.take_length]at hF;have M:=Zb (HM.out l.length);rw[List.take_length]at M;have aq:Hid (O=Zjk (l.foldl Fl.doA (Fl.start rogue))):=I;have a8:Hid ((l.foldl Fl.doA (Fl.start rogue)).rogue=rogue):=Zwr rogue l;clear g6 I HM s9 Hs d hk;generalize l.foldl Fl.doA (Fl.start rogue)=F at hF M aq a8;have sf:=fr_low b9.out he gl;have sb:∀g t,o' g=some t→gf≤g:=fun g t hg=>fr_new b9.out he gl hg
       have ar:=Zb sb;have gp:=Zb (HT.out.mono he.view);clear sb he HT;obtain⟨wd,ci⟩:∃wd:World,wd=wr:=⟨_,rfl⟩;subst ci;have cw:=hj.lt;have b2:=((hj.kept gb).below Z (by omega)).below sf (by omega);have b3:Below w.heap.size w wd:=((m.trans (gb.mono ap)).trans (Z.mono (by omega))).trans (sf.mono (by omega));obtain⟨va,aS,aR⟩:=hF.away;obtain⟨vco,cS,cR⟩:=hF.codes;obtain⟨_,_,vsg,sS,sR⟩:=hF.sg;have a0:=aS.cell (j:=0) (Nat.le_of_ble_eq_true rfl);have c0:=cS.cell (j:=0) (Nat.le_of_ble_eq_true rfl);have s0:=sS.cell (j:=0) (Nat.le_of_ble_eq_true rfl);obtain⟨aA,ac,rfl⟩:=aR.form;obtain⟨cA,cc,rfl⟩:=cR.form;obtain⟨sA,sc,rfl,cm⟩:=id sR;simp at a0 c0 s0;have a7:=Zb cR;have ax:=Zb sR;have dk:=hF.mark;have dp:gf<wd.heap.size:=by have:=cS.lt;omega
       have HF:=Zb hF;clear aR cR sR aS cS sS cm hF;have d8:F.away.length≤400:=M.out.1.away;go_upto_region 23 with fail;refine Zt (fun w'=>Below wd.heap.size wd w') (fun w'=>Below wd.heap.size wd w') [11] (.q 0 (.q 1 (.q 2 (.q 3 (.q 4 (.q 5 (.q 6 (.q 7 (.q 8 (.q 9 (.l 10 (.l 11 .nil)))))))))))) ?_ ?_
       ·exact⟨Zad _,Zad _⟩
       intro W3 _ Q
       repeat((first|refine pq (h:=⟨_,fun w' hS=>by(have x1:=Zaa hS _ _ a0;have x2:=Zaa hS _ _ c0;go_simp;exact rfl),?_⟩)|refine Zq ?_);simp only[sx])
       refine Zd fun K hK=>?_
       try simp only[sy]
       go_simp;have g0:=Zac W3 (.cells #[.slice none 0 0,.slice none 0 0,.int .i64 0,.slice none 0 0] 35);have au:=Blk.new W3 35 #[.slice none 0 0,.slice none 0 0,.int .i64 0,.slice none 0 0];have D:=Q.trans (g0.mono Q.size);refine hK.out _ _ (D) fun hS=>?_
       clear hK K
       try simp only[sx]
       repeat(refine Zq ?_;simp only[sx])
       refine Zc fun K hK=>?_
       try simp only[sy]
       refine Zh 4 au ?_;intro w7 gj gd;have ss:Below wd.heap.size wd w7:=Zab D D.size gd (by intro q e;injection e;have:=Q.size;omega);obtain⟨gh,gx⟩:∃gh,Hid (W3.heap.size=gh):=⟨_,rfl⟩;rw[gx.out]at gj;have sl:wd.heap.size≤gh:=by have:=Q.size;have:=gx.out;omega
       clear D g0 au Q gd a0 c0 hT;refine hK.out _ _ ?_;clear hK K
       try simp only[sx]
       refine Zai ?_;rw[gx.out];clear gx;have cy:=gj.lt;go_wp2_with fail
       go_loopw [14,15,76] (fun _ _ j wr=>∃(k:Nat) (vn:Value),k≤4∧j=.int .i64 k∧Blk wr gh 35 #[vn,.slice none 0 0,.int .i64 F.away.length,.slice cA F.codes.length cc]∧OwnSl 6 (RFrom (gh+1) RVw) 44 wr (gh+1) vn ((Zhx F).take k)∧Below gh w7 wr) (fun _ _ j _=>4-(intOf j).toNat)
       case atStart=>exact⟨0,_,by omega,rfl,gj,OwnSl.nil _ _ _ _ _,Zm _ _⟩
       case round =>
        clear gj;obtain⟨k,vn,hk,rfl,hB,c,s8⟩:=hrel;have g5:Below wd.heap.size wd wr:=ss.trans (s8.mono sl);have cb:=g5.size;have di:=hB.lt
        by_cases d:k<4
        ·obtain⟨X,hX⟩:∃X,Hid ((if (k:Int)=F.rogue then vw0 else view (Zav F k))=X):=⟨_,rfl⟩
         have Hn:Hid ((Zhx F).take (k+1)=(Zhx F).take k++[X]):=by
          show _=_;rw[Zud d,hX.out]
         have A:Hid (((Zhx F).take k).length=k):=by
          show _=_;rw[List.length_take,Zew];omega
         rw[a8.out]at hX;generalize (Zhx F).take k=L at c Hn A;obtain⟨nA,nc,rfl⟩:=c.form;have cr:(k:Int)<4:=by omega
         go_upto_region 28 with fail;refine Zo fun Wv g8 ch sw=>?_
         obtain⟨gv,g2⟩:∃gv,Hid (wr.heap.size=gv):=⟨_,rfl⟩;rw[g2.out]at g8⊢;have ht:=g5.trans (sw.mono cb);have a2:=HF.out.below ht;have al:=gp.out.mono (Zaf HF.out.lim ht);have d4:=g8.lt;go_upto_if 82 with fail
         go_cut [15,82] (fun p _ w'=>∃u r A1 n1 c1 A2 n2 c2 A3 n3 c3 A4 n4 c4,p=.pointer (some ⟨gv,0,none⟩)∧Blk w' gv 44 #[.bool u,.int .i64 r,.slice A1 n1 c1,.slice A2 n2 c2,.slice A3 n3 c3,.slice A4 n4 c4]∧RVw (View.from w'.cell? (gv+1)) [.bool u,.int .i64 r,.slice A1 n1 c1,.slice A2 n2 c2,.slice A3 n3 c3,.slice A4 n4 c4] X∧Below gv Wv w')
         case first =>
          by_cases s:(k:Int)=rogue
          ·have cl:((k:Int) != rogue)=false:=by simpa using s
           have br:Hid (X=vw0):=by show _=_;rw[←hX.out,if_pos s]
           have cf:=Zb s;clear s;go_wp2_with fail;go_meet;refine⟨_,_,_,_,_,_,_,_,_,_,_,_,_,_,rfl,g8,?_,Zm _ _⟩;rw[br.out];exact⟨_,_,_,_,rfl,RSl.nil _ _ _ _,RSl.nil _ _ _ _,RSl.nil _ _ _ _,RVec.nil _ _ _⟩
          ·have cl:((k:Int) != rogue)=true:=by simpa using s
           have cg:Hid (view (Zav F k)=X):=by show _=_;rw[←hX.out,if_neg s]
           have cf:=Zb s;obtain⟨_,V,nS,nR⟩:=a2.node k d;obtain⟨ms,jj,ah⟩:=Zr2 M.out.1 d;have hv:=NFit.of ah (M.out.1.mn k (by omega) (by omega));have so:=Zah o' Wv;have q1:=nS.cell (j:=1) (Nat.le_of_ble_eq_true rfl);have q3:=nS.cell (j:=3) (Nat.le_of_ble_eq_true rfl);have q4:=nS.cell (j:=4) (Nat.le_of_ble_eq_true rfl);have q6:=nS.cell (j:=6) (Nat.le_of_ble_eq_true rfl);have q7:=nS.cell (j:=7) (Nat.le_of_ble_eq_true rfl);have HQ:=Zb (And.intro q1 (And.intro q3 (And.intro q4 (And.intro q6 q7))));have r1:=Zb (nR.tx.mono so);have r2:=Zb (nR.ba.reads RBat.mono (bs:=40) (by have:=hv.bats;omega));have r3:=Zb (nR.ta.reads RSlot.mono (bs:=40) (by have:=hv.table;omega));have r4:=Zb (nR.da.mono RCrt.mono so);have c9:=Zb (al.mono so);generalize Zav F k=N at *;clear s q1 q3 q4 q6 q7 nS nR ah hv a2;have h4:k=0∨k=1∨k=2∨k=3:=by omega
           obtain⟨q1,q3,q4,q6,q7⟩:=HQ.out;go_wp2_with fail;refine(Zv5 gf (1+k*15) N V.tx V.ba V.ta V.da _ q1 q3 q4 q6 q7 r1.out r2.out r3.out r4.out c9.out).mono ?_;rintro e w3 ⟨cs,rfl,Y,vc,vb,vv,vp,b8,x1,x2,x3,x4⟩
           obtain rfl:cs=#[.bool (view N).up,.int .i64 (view N).round,vc,vb,vv,vp]:=by
            rw[←Array.toArray_toList (xs:=cs),b8]
           clear b8;obtain⟨A1,c1,rfl,f1⟩:=id x1;obtain⟨A2,c2,rfl,f2⟩:=id x2;obtain⟨A3,c3,rfl,f3⟩:=id x3;obtain⟨A4,c4,rfl,f4⟩:=id x4;rw[cg.out]at x1 x2 x3 x4⊢;have ay:=g8.kept Y;clear f1 f2 f3 f4 q1 q3 q4 q6 q7;go_wp2_with (refine Zj 6 ay ?_);intro w4 C U;have ce:=Y.size;have bm:Wv.heap.size=gv+1:=by rw[ch,g2.out]
           have q5:VLe (View.from w3.cell? Wv.heap.size) (View.from w4.cell? (gv+1)):=by
            rw[bm];exact Zax U (by omega)
           have hw:Below gv Wv w4:=Zab (Y.mono (by omega)) (by omega) U (by intro q e;injection e;omega);go_wp2_with fail;go_meet;exact⟨_,_,_,_,_,_,_,_,_,_,_,_,_,_,rfl,C,⟨_,_,_,_,rfl,x1.mono RCrt.mono q5,x2.mono RBat.mono q5,x3.mono RSlot.mono q5,x4.mono q5⟩,hw⟩
         case rest =>
          obtain⟨u,r,A1,n1,c1,A2,n2,c2,A3,n3,c3,A4,n4,c4,rfl,sa,be,bw⟩:=hcut;have h8:Below wr.heap.size wr wc:=sw.trans (by rw[g2.out];exact bw);have sm:=hB.kept h8;have hp:=c.kept (RFrom.mono RVw.mono) h8;have S:=c.lt;have dq:=h8.size
          have rR:RFrom (gh+1) RVw (View.but wc.cell? (Value.slice nA L.length nc).ownBlock) [.bool u,.int .i64 r,.slice A1 n1 c1,.slice A2 n2 c2,.slice A3 n3 c3,.slice A4 n4 c4] X :=
           RVw.mono _ _ _ _ be (Zbb (by have:=g2.out;omega) (fun g hg=>by have:=(S g hg).2;have:=g2.out;omega))
          have x0:=sm.cell 0;simp at x0;clear g8 sw ht a2 al hB be hX;go_wp2_with (first|(refine wpList_load_row rfl 44 _ rfl _ rfl _ _ _ _ sa underlying44 rfl (by kernel_rfl) ?_)|(at_builtin;go_loud (refine Zaz (n:=140737488355328) (W:=wc) (xs:=L) (RFrom.mono RVw.mono) X [.bool u,.int .i64 r,.slice A1 n1 c1,.slice A2 n2 c2,.slice A3 n3 c3,.slice A4 n4 c4] elemView _ _ rfl rfl rfl hp (Zm _ _) (by omega) rfl rfl rfl rfl rR (Za _) (by rw[A.out];omega) (by rw[A.out];omega) ?_)));intro v2 w4 ao dg U;have H:∀q,(Value.slice nA L.length nc).ownBlock=some q→gh+1≤q:=fun q hq=>(S q hq).1
          have hc:=sm.grown U (fun e=>by have:=H _ e.symm;omega);have ho:(L++[X]).length=k+1:=by rw[Zl,A.out];rfl
          obtain⟨mA,mc,g3⟩:=ao.form;rw[ho]at g3;subst g3;clear rR hp sm x0 sa ho;go_wp2_with (refine Zaj (n:=1) rfl rfl rfl rfl (by kernel_rfl) rfl hc (by simp) rfl ?_);intro w5 J hm;have J:Blk w5 gh 35 #[.slice mA (k+1) mc,.slice none 0 0,.int .i64 F.away.length,.slice cA F.codes.length cc]:=J;have hn:=ao.low RVw.mono hm (by omega);rw[←Hn.out]at hn;have hw:Below gh w7 w4:=Zab (s8.trans (h8.mono (by omega))) (by omega) U (fun q hq=>by have:=H q hq;omega);have ad:Below gh w7 w5:=Zab hw (by have:=hc.lt;omega) hm (by intro q e;injection e;omega);go_wp2;go_roundw
          case rel=>exact⟨k+1,_,by omega,by go_num,J,hn,ad⟩
          case measure=>simp[intOf];omega
        ·have cr:¬(k:Int)<4:=by omega
         have C:k=4:=by omega
         rw[C,show(Zhx F).take 4=Zhx F from rfl]at c;have rv:=c.reads_from (bs:=112) RVw.mono (by rw[Zew];omega);obtain⟨nA,nc,rfl⟩:=c.form;obtain⟨nL,cp⟩:∃n,Hid ((Zhx F).length=n):=⟨_,rfl⟩;rw[cp.out]at hB rv;have ab:RSigns wd.cell? (.slice sA F.signs.length sc) F.signs:=ax.out.mono RSign.mono (Zah _ _)
         have b5:RIs (View.from wd.cell? gf) (.slice cA F.codes.length cc) F.codes:=by
          have h1:RSl 1 RI 8 (View.from wd.cell? gf) (.slice cA F.codes.length cc) F.codes:=Row.from_ (fun _ _ _ _ r=>r) a7.out (by have:=M.out.2.2;omega) (fun g hg=>ar.out g _ hg);exact Ztc h1
         have s1:=Zaa g5 _ _ s0;have bo:=Zb rv;have bv:=Zb b5;have a1:=Zb M.out.2.1;obtain⟨_,d6,d5,gz⟩:=ab.at;have s6:=Zb gz;obtain⟨wz,cd⟩:∃wz:World,wz=wr:=⟨_,rfl⟩;subst cd;clear c gz hk C ab b5 rv M HF gp ax a7 s0;go_wp2_with fail
         go_loopw [17,101] (fun _ j wr=>∃(k:Nat) (vs:Value),k≤F.signs.length∧j=.int .i64 k∧Blk wr gh 35 #[.slice nA nL nc,vs,.int .i64 F.away.length,.slice cA F.codes.length cc]∧OwnSl 4 (RFrom wz.heap.size RSign) 121 wr wz.heap.size vs (F.signs.take k)∧Chg [gh] wz wr) (fun _ j _=>F.signs.length-(intOf j).toNat)
         case atStart=>exact⟨0,_,by omega,rfl,hB,OwnSl.nil _ _ _ _ _,Chg.refl _ _⟩
         case round =>
          clear hB;obtain⟨k,vs,hk,rfl,hB,c,gn⟩:=hrel;have bd:Below gh wz wr:=gn.below (by simp) (by omega);have cx:=gn.size
          by_cases d:k<F.signs.length
          ·obtain⟨b0,o1,d0,rfl,y0,y1,y2,y3,yd⟩:=s6.out k d;have z:(k:Int)<F.signs.length:=by omega
           have f:Below wd.heap.size wd wr:=g5.trans (bd.mono sl);have z0:=Zaa f _ _ y0;have z1:=Zaa f _ _ y1;have z2:=Zaa f _ _ y2;have z3:=Zaa f _ _ y3;have yd1:=yd.mono (Zaa f);have Hn:=Zb (Zn d);have A:Hid ((F.signs.take k).length=k):=by show _=_;rw[List.length_take];omega
           clear y0 y1 y2 y3 yd;generalize F.signs.take k=L at c Hn A;generalize F.signs[k]=y at *;obtain⟨dA,dc,rfl,bn⟩:=id yd1;obtain⟨vA,vc,rfl⟩:=c.form;clear bn;go_upto_region 35 with fail;refine Zo fun Wq su de gu=>?_
           have yd2:=yd1.mono (Zaa gu);have cn:=gu.size;have x3:=su.cell 3;simp at x3;go_wp2_with fail;clear x3;refine(Zcj _ y.slot.digest _ yd2).mono ?_;rintro e w3 ⟨d2,rfl,Y,od⟩;obtain⟨eA,ec,rfl⟩:=od.form;have sh:=su.kept Y;have ce:=Y.size;have rd3:=od.from_ (bs:=1) (b0:=Wq.heap.size) (by have:=yd2.len;omega) (Za _);go_wp2_with (refine Zaj (n:=1) rfl rfl rfl rfl (by kernel_rfl) rfl sh (Nat.le_of_ble_eq_true rfl) rfl ?_);intro w4 C U;have C:Blk w4 wr.heap.size 121 #[.int .i64 y.node,.int .i64 y.slot.author,.int .i64 y.slot.round,.slice eA y.slot.digest.length ec]:=C;have rd4:=rd3.mono (Zax U (by omega));have h7:Below wr.heap.size wr w4:=Zab (gu.trans (Y.mono cn)) (by omega) U (by intro q e;injection e;omega);have hc:=hB.kept h7;have g9:=c.kept (RFrom.mono RSign.mono) h7;have S:=c.lt
           have rR:RFrom wz.heap.size RSign (View.but w4.cell? (Value.slice vA L.length vc).ownBlock) [.int .i64 y.node,.int .i64 y.slot.author,.int .i64 y.slot.round,.slice eA y.slot.digest.length ec] y :=
            RSign.mono _ _ _ _ ⟨_,rfl,rd4⟩ (Zbb (by omega) (fun g hg=>by have:=(S g hg).2;omega))
           have x1:=hc.cell 1;simp at x1;have d9:=h7.size;clear rd3 rd4 od su sh hB c yd1 yd2 z0 z1 z2 z3 Y gu;go_wp2_with (first|(refine wpList_load_row rfl 121 _ rfl _ rfl _ _ _ _ C underlying121 rfl (by kernel_rfl) ?_)|(at_builtin;go_loud (refine Zaz (n:=140737488355328) (W:=w4) (xs:=L) (RFrom.mono RSign.mono) y [.int .i64 y.node,.int .i64 y.slot.author,.int .i64 y.slot.round,.slice eA y.slot.digest.length ec] Zo3 _ _ rfl rfl rfl g9 (Zm _ _) (by omega) rfl rfl rfl rfl rR (Za _) (by rw[A.out];have:=a1.out;omega) (by rw[A.out];have:=a1.out;omega) ?_)));intro v2 w5 hn g0 hm;have H:∀q,(Value.slice vA L.length vc).ownBlock=some q→wz.heap.size≤q:=fun q hq=>(S q hq).1
           have J:=hc.grown hm (fun e=>by have:=H _ e.symm;omega);have ho:(L++[y]).length=k+1:=by rw[Zl,A.out];rfl
           obtain⟨mA,mc,g3⟩:=hn.form;rw[ho]at g3;subst g3;clear rR g9 hc x1 C ho;go_wp2_with (refine Zaj (n:=1) rfl rfl rfl rfl (by kernel_rfl) rfl J (Nat.le_of_ble_eq_true rfl) rfl ?_);intro w6 st b4;have st:Blk w6 gh 35 #[.slice nA nL nc,.slice mA (k+1) mc,.int .i64 F.away.length,.slice cA F.codes.length cc]:=st;have az:=hn.low RSign.mono b4 (by omega);rw[←Hn.out]at az
           have af:Chg [gh] wz w6:=by
            have c1:Chg [gh] wz w5:=Zo8 (gn.trans (.of_below h7 (Za _))) hm (fun q hq=>.inr (H q hq));exact Zo8 c1 b4 (fun q hq=>.inl (by injection hq with hq;subst hq;simp))
           go_wp2;go_roundw
           case rel=>exact⟨k+1,_,by omega,by go_num,st,az,af⟩
           case measure=>simp[intOf];omega
          ·have z:¬(k:Int)<F.signs.length:=by omega
           have aw:k=F.signs.length:=by omega
           rw[aw,List.take_length]at c;have rs:=c.reads_from (bs:=48) RSign.mono (by have:=a1.out;omega);obtain⟨vA,vc,rfl⟩:=c.form;have f:Below wd.heap.size wd wr:=g5.trans (bd.mono sl);have am:=b2.below f (by omega);have s2:Below w.heap.size w wr:=b3.trans (f.mono (by omega));have bq:=Zb rs;clear c rs aw s6;go_wp2_with (first|(refine wpList_load_row rfl 35 _ rfl _ rfl _ _ _ _ hB underlying35 rfl (by kernel_rfl) ?_)|(refine Zj 4 am ?_));intro w9 cj gw;go_wp2;refine bodyPost_ret (Zag rfl rfl (by kernel_rfl) (by kernel_rfl) cj rfl) rfl ?_;refine⟨_,by rw[g4.out];rfl,Zab s2 s2.size gw (by intro q e;injection e;omega),?_⟩;rw[aq.out];refine⟨_,_,_,rfl,bo.out.mono RVw.mono ?_,bq.out.mono RSign.mono ?_,bv.out.mono ?_⟩
           ·exact((Zi7 (B:=gh+1) gn (by simp)).trans (Zax gw (by omega))).trans (Zba (by omega))
           ·exact(Zax gw (by omega)).trans (Zba (by omega))
           ·exact((Za0 _ (Zaa f)).trans (Zax gw (by omega))).trans (Zba (by omega))
theorem Zna{a:At}(h:actE a=0):a.text.size≤4000:=by
 have d:=Zq7 h
 by_cases ht:hT a.kind=true
 ·exact d.2.2.1 ht
 ·unfold actE actF at h;split at h
  ·cases h
  ·split at h
   ·cases h
   ·split at h
    ·cases h
    ·split at h
     ·cases h
     ·rename_i b;simp only[Bool.or_eq_true,Bool.and_eq_true,Bool.not_eq_true',bne_iff_ne,ne_eq,not_or,not_and,Bool.not_eq_false,Decidable.not_not,decide_eq_true_eq,beq_iff_eq]at b;have c:=b.2 (by simpa using ht);have:a.text.size=a.text.toList.length:=by rw[ByteArray.toList_eq];exact Array.length_toList.symm
      rw[this,c];decide
structure RanOut (w w':World) (e:Ending) (rogue:Int) (l:List At):Prop where
 out:∃cs:Array Value,e=.returned (.tuple #[.agg cs,.bool true])∧Below w.heap.size w w'∧ROc (View.from w'.cell? w.heap.size) cs.toList (Zjk (run rogue l))
theorem ran_any(rogue:Int)(v:Value)(l:List At)(w:World)(Q:inB rogue (-1) 3=true)(rl:RAts w.cell? v l)(D:Acts l)(I:l.length≤3000)(hT:Tabs w.cell?) :
 Calls prog 8 #[.int .i64 rogue,v] w fun e w'=>RanOut w w' e rogue l:=by
 have G:=runE_ok Q D I;have b:=fun W (rl:RAts W.cell? v l) (hT:Tabs W.cell?)=>run_any rogue v l W rl (fun a h=>Zg (Zna (D a h)) (by decide)) hT
 rw[G]at b;simp only[if_true]at b;have g:=Zb b;obtain⟨O,z⟩:∃O,Hid (Zjk (run rogue l)=O):=⟨_,rfl⟩;have x:Hid (O.nodes.length=4):=by show _=_;rw[←z.out];exact Zew _
 rw[z.out]at g;obtain⟨A,lc,rfl,y⟩:=id rl;clear b G y D I;go_enter func8,ntmps8;go_upto_region 1 with fail;refine Zo fun W r M c=>?_
 have rl1:=rl.mono RAt.mono (Zaa c);have u:=hT.mono (Zaa c);have L:=c.size;go_wp2_with fail;refine(g.out _ rl1 u).mono ?_;rintro e w2 ⟨cs,rfl,j,vv,vs,vc,n,r1,r2,r3⟩;obtain rfl:cs=#[vv,vs,.int .i64 O.away,vc]:=by rw[←Array.toArray_toList (xs:=cs),n]
 obtain⟨A1,c1,rfl,f1⟩:=id r1;obtain⟨A2,c2,rfl,f2⟩:=id r2;obtain⟨A3,c3,rfl,f3⟩:=id r3;have o:=r.kept j;have P:=j.size;rw[x.out]at r1⊢;clear f1 f2 f3 n;go_upto_region 2 with fail;refine Zo fun W3 B F d=>?_
 have p:=o.kept d;have N:=r.lt;refine Zt (fun w'=>Below W3.heap.size W3 w') (fun w'=>Blk w' w2.heap.size 35 #[.slice A1 4 c1,.slice A2 O.signs.length c2,.int .i64 O.away,.slice A3 O.codes.length c3]) [10] (.q 0 (.q 1 (.q 2 (.q 3 (.q 4 (.q 5 (.q 6 (.q 7 (.q 8 (.l 9 (.qc 10 .nil))))))))))) ?_ ?_
 ·exact⟨Zad _,B.kept (Zad _)⟩
 intro W4 k m;have t:=p.kept k;refine pl_q (by assumption) rfl rfl ?_;apply Exists.intro;refine⟨fun w' m=>Zfv 35 _ rfl _ rfl _ _ (0,0) _ (m) underlying35 rfl (by kernel_rfl),?_⟩;simp only[List.getElem_toArray,List.getElem_cons_zero,List.getElem_cons_succ,Act.put,List.setIfInBounds_toArray,List.set_cons_zero,List.set_cons_succ]
 repeat((first|refine pq (h:=⟨_,fun w' m=>by(have J:=m.cell 0;simp at J;go_simp;exact rfl),?_⟩)|refine Zq ?_);simp only[sx])
 refine Zd fun K H=>?_
 try simp only[sy]
 refine Zh 4 t ?_;intro w5 C i;have E:=m.grown i (by simp;omega);have f:Below w.heap.size w W4:=((c.trans (j.mono L)).trans (d.mono (by omega))).trans (k.mono (by have:=d.size;omega));have s:=Zab f f.size i (by intro q e;injection e;omega);refine H.out _ _ (E) fun m=>?_
 clear H K
 try simp only[sx]
 repeat(refine Zq ?_;simp only[sx])
 refine Zai ?_;go_wp2;refine bodyPost_ret (Zag rfl rfl (by kernel_rfl) (by kernel_rfl) C rfl) rfl ?_
 have q:VLe (View.from w2.cell? W.heap.size) (View.from w5.cell? w.heap.size) :=
  (((Za0 _ (Zaa d)).trans (Za0 _ (Zaa k))).trans (Zax i (by omega))).trans (Zba (by omega))
 refine⟨⟨_,rfl,s,?_⟩⟩;rw[z.out];refine⟨_,_,_,rfl,r1.mono RVw.mono q,r2.mono RSign.mono q,r3.mono q⟩
theorem Zzr{O:Oc}(r:ROc h cs.toList O):∃A1 c1 A2 c2 A3 c3,cs=#[.slice A1 O.nodes.length c1,.slice A2 O.signs.length c2,.int .i64 O.away,.slice A3 O.codes.length c3]∧RSl 6 RVw 112 h (.slice A1 O.nodes.length c1) O.nodes∧RSigns h (.slice A2 O.signs.length c2) O.signs∧RIs h (.slice A3 O.codes.length c3) O.codes:=by
 obtain⟨v1,v2,v3,e,r1,r2,r3⟩:=r;obtain⟨A1,c1,rfl,_⟩:=id r1;obtain⟨A2,c2,rfl,_⟩:=id r2;obtain⟨A3,c3,rfl,_⟩:=id r3;exact⟨A1,c1,A2,c2,A3,c3,by rw[←Array.toArray_toList (xs:=cs),e],r1,r2,r3⟩
theorem RVws.at{h:View}{A:Option Addr}{n c:Nat}{xs:List Vw}(i:RSl 6 RVw 112 h (.slice A n c) xs):n=xs.length∧∀k (d:k<xs.length),∃b o vc vb vv vp,A=some ⟨b,o,none⟩∧h ⟨b,o+k*6,none⟩=some (.bool xs[k].up)∧h ⟨b,o+k*6+1,none⟩=some (.int .i64 xs[k].round)∧h ⟨b,o+k*6+2,none⟩=some vc∧h ⟨b,o+k*6+3,none⟩=some vb∧h ⟨b,o+k*6+4,none⟩=some vv∧h ⟨b,o+k*6+5,none⟩=some vp∧RCrts h vc xs[k].certs∧RBats h vb xs[k].bats∧RSlots h vv xs[k].votes∧RTexts h vp xs[k].pool:=by
 obtain⟨A',c',e,j,_,m,_,f⟩:=i;injection e with e1 e2 e3;subst e1 e2 e3;refine⟨rfl,fun k d=>?_⟩;obtain⟨b,o,ea,g⟩:=f (by omega);obtain⟨cs,l,a,vc,vb,vv,vp,rfl,r1,r2,r3,r4⟩:=g k d;have c0:=a 0 (by omega);have c1:=a 1 (by omega);have c2:=a 2 (by omega);have c3:=a 3 (by omega);have c4:=a 4 (by omega);have c5:=a 5 (by omega);simp at c0 c1 c2 c3 c4 c5;exact⟨b,o,vc,vb,vv,vp,ea,c0,c1,c2,c3,c4,c5,r1,r2,r3,r4⟩
structure RanV (w w':World) (e:Ending) (rogue:Int) (l:List At):Prop where
 out:∃A1 c1 A2 n2 c2 A3 n3 c3,e=.returned (.tuple #[.agg #[.slice A1 4 c1,.slice A2 n2 c2,.int .i64 ((run rogue l).away.length:Nat),.slice A3 n3 c3],.bool true])∧Below w.heap.size w w'∧n2=(run rogue l).signs.length∧n3=(run rogue l).codes.length∧RSl 6 RVw 112 w'.cell? (.slice A1 4 c1) (Zhx (run rogue l))∧RSigns w'.cell? (.slice A2 n2 c2) (run rogue l).signs
theorem Ztf(rogue:Int)(v:Value)(l:List At)(w:World)(b:inB rogue (-1) 3=true)(rl:RAts w.cell? v l)(c:Acts l)(a:l.length≤3000)(hT:Tabs w.cell?) :
 Calls prog 8 #[.int .i64 rogue,v] w fun e w'=>RanV w w' e rogue l:=by
 refine(ran_any rogue v l w b rl c a hT).mono ?_;rintro e w' ⟨cs,rfl,d,r⟩;obtain⟨A1,c1,A2,c2,A3,c3,rfl,r1,r2,r3⟩:=Zzr r;exact⟨_,_,_,_,_,_,_,_,rfl,d,rfl,rfl,r1.mono RVw.mono (View.from_le _ _),r2.mono RSign.mono (View.from_le _ _)⟩
theorem Zza(a:k<(Zhx f).length):(Zhx f)[k]=vwAt f k:=by
 have:k=0∨k=1∨k=2∨k=3:=by rw[Zew]at a;omega
 rcases this with rfl|rfl|rfl|rfl<;>rfl
theorem Zuz:Zgi prog 51 (fun h cs (a:At)=>RAt h cs a∧GOk a):=by
 intro H enc w fuel cs x h j;obtain⟨k,d⟩:=Zqc underlying51 h j;obtain⟨a,i,wa⟩:=d 0 3 0 1 rfl (by kernel_rfl) Zrs;obtain⟨b,f,wb⟩:=d 1 3 1 1 rfl (by kernel_rfl) Zrs;obtain⟨c,g,wc⟩:=d 2 3 2 1 rfl (by kernel_rfl) Zrs;obtain⟨s,hd,l⟩:=d 3 9 3 1 rfl (by kernel_rfl) opens_s;have e:cs.length=4:=k.trans (by kernel_rfl);have i64:∀{n:Int},(Lit.int .i64 n).wf=true→I64 n:=fun {n} h=>by simpa[Lit.wf,IntKind.min,IntKind.max,IntKind.signed,IntKind.bits,I64]using h
 match cs,e with
 |[c0,c1,c2,c3],_ =>
  simp at i f g hd;subst i f g hd;exact⟨⟨a,b,c,s⟩,rfl,i64 wa,i64 wb,i64 wc,Zzu l⟩
theorem Zrt:Zgi prog 22 (fun h cs (xs:List At)=>∃v,cs=[v]∧RSl 4 (fun h cs (a:At)=>RAt h cs a∧GOk a) 40 h v xs) :=
 Zz4 underlying22 (by kernel_rfl) (by decide) (by kernel_rfl) Zuz
theorem gears_of{xs:List At}(r:RSl 4 (fun h cs (a:At)=>RAt h cs a∧GOk a) 40 h v xs):RAts h v xs∧∀a∈xs,GOk a:=by
 obtain⟨A,c,e,g,l,k,j,f⟩:=r;refine⟨⟨A,c,e,g,l,k,j,fun hp=>?_⟩,fun a m=>?_⟩
 ·obtain⟨b,o,ea,d⟩:=f hp;refine⟨b,o,ea,fun i hi=>?_⟩;obtain⟨cs,q1,q2,q3⟩:=d i hi;exact⟨cs,q1,q2,q3.1⟩
 ·obtain⟨i,hi,rfl⟩:=List.getElem_of_mem m;obtain⟨b,o,ea,d⟩:=f (by omega);obtain⟨cs,q1,q2,q3⟩:=d i hi;exact q3.2
theorem Zu0{H:Type}{enc:TypeId×Value→H}{base:Nat}{d:DataW H}{p:List MemPlace}(b:Value.okWide prog W .any base 22 v)(h:DataW.Trod enc prog W 0 (fun _=>true) true 22 v d p)(f:∀n∈DataW.weights prog 22 d,n≤reachBytes):∃l:List At,RAts W.cell? v l∧∀g∈l,GOk g:=by
 obtain⟨fuel,h⟩:=h;obtain⟨x,v',i,k⟩:=Zrt H enc W fuel _ _ h f;obtain⟨a,n,c,rfl⟩:=okWide_slice underlying22 b;obtain rfl:Value.slice a n c=v':=by simpa[Value.cells]using i
 obtain⟨e,j⟩:=gears_of k;exact⟨x,e,j⟩
theorem Zz6{H:Type}{enc:TypeId×Value→H}{base:Nat}{d:DataW H}{p:List MemPlace}(a:Value.okWide prog W .any base 3 v)(h:DataW.Trod enc prog W 0 (fun _=>true) true 3 v d p)(b:∀n∈DataW.weights prog 3 d,n≤reachBytes):∃n:Int,v=.int .i64 n∧I64 n:=by
 obtain⟨n,rfl,wn⟩:=Zz5 (k:=.i64) underlying3 a h b;exact⟨n,rfl,by simpa[Lit.wf,IntKind.min,IntKind.max,IntKind.signed,IntKind.bits,I64]using wn⟩
end Fl
theorem RSl.small(b:RSl sz R bs h v xs)(c:0<bs):xs.length≤140737488355328:=by
 obtain⟨_,_,_,_,_,a,_⟩:=b;exact Zg (Nat.le_mul_of_pos_right _ c) a
namespace Fl
theorem rng6{p:Nat}{a0 a1 a2 a3 a4 a5:Value}(a:h ⟨b,p,none⟩=some a0)(c:h ⟨b,p+1,none⟩=some a1)(g:h ⟨b,p+2,none⟩=some a2)(f:h ⟨b,p+3,none⟩=some a3)(d:h ⟨b,p+4,none⟩=some a4)(e:h ⟨b,p+5,none⟩=some a5) :
 ∀(j:Nat) (u:Value),[a0,a1,a2,a3,a4,a5][j]?=some u→h ⟨b,p+j,none⟩=some u:=by
 intro j u hu
 match j,hu with
 |0,hu=>simp at hu;subst hu;exact a
 |1,hu=>simp at hu;subst hu;exact c
 |2,hu=>simp at hu;subst hu;exact g
 |3,hu=>simp at hu;subst hu;exact f
 |4,hu=>simp at hu;subst hu;exact d
 |5,hu=>simp at hu;subst hu;exact e
 |j+6,hu=>simp at hu
def acOf(a:At):Ln.Ac:=⟨a.kind,a.node,a.pick,a.text⟩
theorem Zzx{l:List At}(r:RAts h v l):Ln.RActs h v (l.map acOf):=by
 obtain⟨A,c,e,a,k,g,d,f⟩:=r;refine⟨A,c,by rw[List.length_map];exact e,by simpa using a,k,by simpa using g,d,fun hp=>?_⟩;obtain⟨b,o,ea,j⟩:=f (by simpa using hp);refine⟨b,o,ea,fun i hi=>?_⟩;obtain⟨cs,q1,q2,q3⟩:=j i (by simpa using hi);exact⟨cs,q1,q2,by rw[List.getElem_map];exact q3⟩
theorem rats_of{l:List At}(r:Ln.RActs h v (l.map acOf)):RAts h v l:=by
 obtain⟨A,c,e,a,k,f,g,d⟩:=r;rw[List.length_map]at e a f;refine⟨A,c,e,a,k,f,g,fun hp=>?_⟩;obtain⟨b,o,ea,j⟩:=d (by simpa using hp);refine⟨b,o,ea,fun i hi=>?_⟩;obtain⟨cs,q1,q2,q3⟩:=j i (by simpa using hi);rw[List.getElem_map]at q3;exact⟨cs,q1,q2,q3⟩
theorem Zss:∀(k n:Nat),0<k→n<10^k→(Lib.decDigits n).length≤k
 |0,_,h,_=>absurd h (by decide)
 |k+1,n,_,h=>by
  rw[Lib.decDigits]
  split
  ·simp
  ·rename_i b
   have a:0<k:=by
    rcases Nat.eq_zero_or_pos k with e|e
    ·subst e;simp at h;omega
    ·exact e
   have:=Zss k (n/10) a (by rw[Nat.pow_succ]at h;omega);simp;omega
theorem line_len{a:At}(h:actE a=0):(Ln.lineL (acOf a)).length≤8100:=by
 obtain⟨_,_,b,c,d⟩:=Ln.act_fine (a:=acOf a) h;have w1:=Ln.wordL_len (acOf a).kind.toNat;unfold Ln.lineL;simp only[Zl]
 have e1:(if hN (acOf a).kind then 32::Ln.decL (acOf a).node else []).length≤10:=by
  split
  ·rename_i q;have:=b q;have:=Zss 1 (acOf a).node.toNat (by decide) (by omega);unfold Ln.decL;simp;omega
  ·simp
 have e2:(if hP (acOf a).kind then 32::Ln.decL (acOf a).pick else []).length≤10:=by
  split
  ·rename_i q;have:=c q;have:=Zss 6 (acOf a).pick.toNat (by decide) (by omega);unfold Ln.decL;simp;omega
  ·simp
 have e3:(if hT (acOf a).kind then 32::Ln.hexL (acOf a).text.data.toList else []).length≤8001:=by
  split
  ·rename_i q;have:=d q;have e:(acOf a).text.data.toList.length=(acOf a).text.size:=Array.length_toList;simp only[Zu,Ln.hexL_len,e];omega
  ·simp
 simp only[List.length_singleton];omega
theorem show_len(l:List At)(h:∀a∈l,actE a=0):(Ln.showL (l.map acOf)).length≤8100*l.length:=by
 induction l with
 |nil=>simp[Ln.showL]
 |cons a l ih =>
  have d:=line_len (h a (by simp));have e:=ih (fun b c=>h b (by simp[c]));show(Ln.lineL (acOf a)++Ln.showL (l.map acOf)).length≤_;simp;omega
theorem Zzt(a:List At)(h:∀x∈a,actE x=0)(b:a.length≤3000):Ln.readG (Ln.lineG Ln.numP) (Ln.showL (a.map acOf)).length 0 (Ln.showL (a.map acOf)) []=(a.map acOf,0,0) :=
 Ln.read_back (a.map acOf) _ 0 [] (fun y c=>by obtain⟨z,d,rfl⟩:=List.mem_map.1 c;exact h z d) (by simpa using b) (Ln.show_len _)
end Fl
end Go.Proofs.YtbcpbnfojfiekaaGreatDoor
