/- A part of what the last text stands on. -/
import Derived.Deep.DeepCutAuto
import Derived.Deep.CutBlock
import Derived.Test.YtinibgklgehdpaaGreatDoorK03
import Derived.Test.YtinibgklgehdpaaGreatDoorK05
namespace Go.Proofs.YtinibgklgehdpaaGreatDoor
open Go.ChangeShapes Go.WideShapes Go.ChangeAt Go.RowKit Qa Qb Qc
set_option linter.all false
set_option maxHeartbeats 20000000
set_option maxRecDepth 100000
variable{w:World}{t:TypeId}{i j g:Nat}
theorem Zcr{xs:List Nat}(h:Arr w g t encU xs)(hi:i<xs.length):w.cell? ⟨g,i,none⟩=some (.int .u32 (at0 xs i:Nat)):=by
 rw[Arr.at h i hi,Zgm hi];rfl
theorem Ztv:(List.replicate 16 0).map encU=[encU 0,encU 0,encU 0,encU 0,encU 0,encU 0,encU 0,encU 0,encU 0,encU 0,encU 0,encU 0,encU 0,encU 0,encU 0,encU 0]:=rfl
theorem Zof{x y z:Nat}:IntKind.u32.wrap ((x:Int)+((y:Int)+(z:Int)))=(add3 x y z:Nat):=by
 rw[IntKind.wrap_u32];unfold add3;omega
def Ziw(s v:List Nat)(j:Nat):List Nat:=(List.range 8).map fun i=>if i<j then Zgk s v i else at0 s i
theorem Zgd(s v:List Nat)(j:Nat):(Ziw s v j).length=8:=by simp[Ziw]
theorem Zsu{s v:List Nat}(h:Ws 8 s):Ziw s v 0=s:=by
 refine List.ext_getElem (by rw[Zgd,h.1]) (fun i h1 h2=>?_);simp[Ziw,Zgm h2]
theorem Zux(s v:List Nat):Ziw s v 8=(List.range 8).map (Zgk s v):=by
 unfold Ziw;refine List.map_congr_left (fun i hi=>?_);rw[if_pos (List.mem_range.1 hi)]
theorem Zv7{s v:List Nat}(hj:j<8):at0 (Ziw s v j) j=at0 s j:=by
 rw[←Zgm (by rw[Zgd];exact hj)];simp[Ziw]
theorem Zsv(s v:List Nat)(hj:j<8):(Ziw s v j).set j (Zgk s v j)=Ziw s v (j+1):=by
 refine List.ext_getElem (by simp[Zgd]) (fun i h1 h2=>?_);rw[List.getElem_set];simp only[Ziw,List.getElem_map,List.getElem_range];split
 ·rename_i e;subst e;rw[if_pos (by omega)]
 ·rename_i e
  by_cases h:i<j
  ·rw[if_pos h,if_pos (by omega)]
  ·rw[if_neg h,if_neg (by omega)]
theorem Zv0(s v:List Nat)(j:Nat):Zgk s v j=Zct (at0 s j) (Zct (at0 v j) (at0 v (j+8))):=by
 unfold Zgk Zct;exact Nat.xor_assoc _ _ _
theorem Tabs.lt(h:Tabs w.cell?):0<w.heap.size∧1<w.heap.size∧2<w.heap.size :=
 ⟨World.block_lt_of_cell? w _ (h.first 0 (by decide)),World.block_lt_of_cell? w _ (h.order 0 (by decide)),World.block_lt_of_cell? w _ (h.lanes 0 (by decide))⟩
theorem Tabs.chg{a b:World}(h:Tabs a.cell?)(hc:Chg [g] a b)(hg:0<g∧1<g∧2<g):Tabs b.cell? :=
 ⟨fun i hi=>(hc.cell _ i h.lt.1 (by simp;omega)).trans (h.first i hi),fun i hi=>(hc.cell _ i h.lt.2.1 (by simp;omega)).trans (h.order i hi),fun i hi=>(hc.cell _ i h.lt.2.2 (by simp;omega)).trans (h.lanes i hi)⟩
theorem Zom{n:Nat}{l:List Nat}(hl:l.length=n)(h:∀i,i<n→w.cell? ⟨g,i,none⟩=some (encN (at0 l i))):∀j v,(l.map encN)[j]?=some v→w.cell? ((⟨g,0,none⟩:Addr).add j)=some v:=fun j v hj=>by
 have hjl:j<l.length:=by have:=(List.getElem?_eq_some_iff.1 hj).1;simpa using this
 rw[Zbs,Nat.zero_add,h j (by omega),←Zgm hjl]
 simpa[hjl]using hj
theorem Znr(hj:j<8):(lane j).1<16∧(lane j).2.1<16∧(lane j).2.2.1<16∧(lane j).2.2.2<16:=by
 have:∀j:Fin 8,(lane j).1<16∧(lane j).2.1<16∧(lane j).2.2.1<16∧(lane j).2.2.2<16:=by decide
 exact this ⟨j,hj⟩
theorem Zq8(gs:Nat)(s:List Nat)(vb:Value)(b:List UInt8)(many:Nat)(last:Bool)(w:World)(hs:Arr w gs 163 encU s)(hws:Ws 8 s)(hb:Zao (View.but w.cell? (some gs)) vb b)(hlen:b.length≤64)(hmany:W32 many)(hT:Tabs (View.but w.cell? (some gs))) :
 Calls Tryz.prog 95 #[.pointer (some ⟨gs,0,none⟩),vb,.int .i64 many,.bool last] w fun e w'=>e=.returned (.tuple #[])∧Arr w' gs 163 encU (Zft s b many last)∧Chg [gs] w w':=by
 have hT1:=hT.mono (View.but_le _ _);obtain⟨A,c,rfl,hlc,_,_,_,hel⟩:=hb
 have Hel:Hid (0<b.length→∃b' o,A=some ⟨b',o,none⟩∧∀i (hi:i<b.length),w.cell? ⟨b',o+i,none⟩=some (encB b[i])):=fun hp=>by
  obtain⟨b',o,ea,hc⟩:=hel hp;exact⟨b',o,ea,fun i hi=>View.but_le _ _ _ _ (hc i hi)⟩
 clear hel;obtain⟨n,hn0⟩:∃n,Hid (b.length=n):=⟨_,rfl⟩;rw[hn0.out]at hlc hlen⊢;have Hs:=Lib.hid hs;have HT:=Lib.hid hT1;clear hs hT hT1
 go_enter Tryz.func95,Tryz.ntmps95
 go_wp2
 go_loopw [23] (fun i wr=>∃k:Nat,k≤n∧i=.int .i64 k∧Arr wr w.heap.size 199 encU (words (b.take k))∧Below w.heap.size w wr) (fun i _=>n-(intOf i).toNat)
 case atStart=>exact⟨0,Nat.zero_le _,rfl,by rw[List.take_zero,Ztx];unfold Arr;rw[Ztv];exact Blk.new _ _ _,Zac _ _⟩
 case round =>
  obtain⟨k,hk,rfl,hown,hbl⟩:=hrel
  by_cases hlt:k<n
  ·have hltb:k<b.length:=by rw[hn0.out];exact hlt
   obtain⟨b0,o0,rfl,hcell0⟩:=Hel.out (by rw[hn0.out];omega);have hc1:wr.cell? ⟨b0,o0+k,none⟩=some (.int .u8 b[k].toNat):=Zaa hbl _ _ (hcell0 k hltb);clear hcell0;have hc2:=Zcr hown (i:=k/4) (by rw[Zfi];omega);have hstep:=Lib.hid (Zr9 b k (by omega) hltb);have hslt:=Zsa b k (by omega);have hx256:b[k].toNat<256:=UInt8.toNat_lt _;have q1:IntKind.i64.wrap ((k:Int)/4)=((k/4:Nat):Int):=by rw[Zj6 _ (by omega) (by omega)];omega
   have q2:Int.tmod (k:Int) 4=((k%4:Nat):Int):=by rw[Int.tmod_eq_emod_of_nonneg (by omega)];omega
   have q3:IntKind.i64.wrap (((k%4:Nat):Int)*8)=((8*(k%4):Nat):Int):=by rw[Zj6 _ (by omega) (by omega)];omega
   have hq:k/4<16:=by omega
   have hs:8*(k%4)≤64:=by omega
   have hs':8*(k%4)=0∨8*(k%4)=8∨8*(k%4)=16∨8*(k%4)=24:=by omega
   generalize hm:at0 (words (b.take k)) (k/4)=m at hc2 hstep hslt;generalize hx:b[k].toNat=x at hc1 hstep hx256;generalize hqq:k/4=q at hc2 hstep q1 hq hm;generalize hss:8*(k%4)=t at hstep hslt q3 hs hs';generalize k%4=r at q2 q3;clear hm hx hss;have hqi:(q:Int)<16:=by omega
   have q4:=Zpt m x t hs' hslt hx256;have qm:min t 32=t:=by omega
   have q6:IntKind.u32.wrap (x:Int)=x:=by rw[IntKind.wrap_u32];omega
   clear hslt hs';obtain⟨y,hy⟩:∃y,Hid (m+x*2^t=y):=⟨_,rfl⟩;rw[hy.out]at q4 hstep;go_wp2;refine Zr [12] (.q 0 (.q 1 (.q 2 (.q 3 (.q 4 (.q 5 (.q 6 (.q 7 (.q 8 (.q 9 (.q 10 (.q 11 (.l 12 .nil))))))))))))) fun W hS=>?_
   repeat((first|refine pq (h:=⟨_,fun w' hS=>by(have h1:=Zaa hS _ _ hc1;have h2:=Zaa hS _ _ hc2;go_simp;exact rfl),?_⟩)|refine Zq ?_);simp only[sx])
   refine Zc fun K hK=>?_
   try simp only[sy]
   refine Zbt (xs:=words (b.take k)) y rfl rfl rfl (by kernel_rfl) rfl rfl (hown.kept hS) (by rw[Zfi];omega) ?_;intro w3 ho3 hg3;rw[hstep.out]at ho3;have hb3:Below w.heap.size w w3:=(hbl.trans (hS.mono hbl.size)).trans ((Chg.of_grown (G:=[w.heap.size]) hg3 (by simp)).below (by simp) (Nat.le_trans hbl.size hS.size));refine hK.out _ _ ?_;clear hK K
   try simp only[sx]
   refine Zah ?_;go_wp2;go_roundw
   case rel=>exact⟨k+1,by omega,by go_num,ho3,hb3⟩
   case measure=>simp[intOf];omega
  ·have hkn:k=b.length:=by rw[hn0.out];omega
   rw[hkn,List.take_length]at hown;have hki:¬(k:Int)<n:=by omega
   obtain⟨M,hM⟩:∃M,Hid (words b=M):=⟨_,rfl⟩;have hWM:Ws 16 M:=hM.out▸Ws.words b;rw[hM.out]at hown;clear hkn hk;obtain⟨gm,hgm⟩:∃gm,Hid (w.heap.size=gm):=⟨_,rfl⟩;rw[hgm.out]at hown⊢;have hgmlt:=hown.lt;have hzA:=hbl.size
   go_wp2_with fail
   refine Za7 _ _ _ (fun W=>(Code.region _ _ _).wp _ _ _ W) (fun W1 hv0 hszv hblv=>?_);have hv1:Arr W1 wr.heap.size 199 encU (List.replicate 16 0):=by unfold Arr;rw[Ztv];exact hv0
   obtain⟨gv,hgv⟩:∃gv,Hid (wr.heap.size=gv):=⟨_,rfl⟩;have hsW:=(Hs.out.below hbl Hs.out.lt).kept hblv;have hgs:=Hs.out.lt;have hTW:=(HT.out.mono (Zaa hbl)).mono (Zaa hblv);rw[hgv.out]at hv1 hszv hgmlt hzA⊢;clear hv0;refine Zt (fun w'=>Below W1.heap.size W1 w') (fun w'=>Chg [gv] W1 w') [] (.q 0 (.q 1 (.q 2 (.q 3 (.l 4 .nil))))) ?_ ?_
   ·exact⟨Zad _,(Chg.refl _ _).drew⟩
   intro W hS0 hS
   repeat(refine Zq ?_;simp only[sx])
   refine Zd fun K hK=>?_
   try simp only[sy]
   refine Zj7 (g:=gv) (off:=0) (g2:=gs) (o2:=0) (n:=8) (ys:=s) _ _ _ _ rfl Tryz.underlying200 (by kernel_rfl) rfl rfl (hv1.kept hS0) hws.1 (by decide) (fun j hj=>by rw[(hsW.kept hS0).cell,Nat.zero_add];simp[hj]) Zrt ?_;intro w2 ho2 hg2;have hk2:=hS.trans (Chg.of_grown (G:=[gv]) hg2 (by simp));refine hK.out _ _ (hk2) fun hS=>?_
   clear hK K
   try simp only[sx]
   refine Zah ?_;have e2:(List.replicate 16 0).take 0++(s++(List.replicate 16 0).drop (0+8))=s++List.replicate 8 0:=rfl;rw[e2]at ho2;clear hg2 hS0 e2 hsW hv1 hS;have hT2:=hTW;have hz2:=hk2.size
   go_wp2_with fail
   refine Zt (fun w'=>Below w2.heap.size w2 w') (fun w'=>Chg [gv] w2 w') [] (.q 0 (.q 1 (.l 2 .nil))) ?_ ?_
   ·exact⟨Zad _,(Chg.refl _ _).drew⟩
   intro W hS0 hS
   repeat(refine Zq ?_;simp only[sx])
   refine Zd fun K hK=>?_
   try simp only[sy]
   refine Zj7 (g:=gv) (off:=8) (g2:=0) (o2:=0) (n:=8) (ys:=Zc3) _ _ _ _ rfl Tryz.underlying200 (by kernel_rfl) rfl rfl (ho2.kept hS0) rfl (by rw[List.length_append,hws.1];decide) (fun j hj=>?_) Zrt ?_
   ·have hb:=hT2.first j hj;have hlt:=World.block_lt_of_cell? W1 _ hb
    have hne:0≠gv:=by
     have:=World.block_lt_of_cell? w _ (HT.out.first 0 (by decide));have:=hbl.size;have:=hgv.out;dsimp only at *;omega
    have h3:=(hk2.cell 0 j hlt (by simp;omega)).trans hb;rw[Nat.zero_add,Zgm hj];exact Zaa hS0 _ _ h3
   intro w3 ho3 hg3;have hk3:=hS.trans (Chg.of_grown (G:=[gv]) hg3 (by simp));refine hK.out _ _ (hk3) fun hS=>?_
   clear hK K
   try simp only[sx]
   refine Zah ?_
   have e3:(s++List.replicate 8 0).take 8++(Zc3++(s++List.replicate 8 0).drop (8+8))=s++Zc3:=by
    rw[List.take_append_of_le_length (by rw[hws.1];decide),List.take_of_length_le (by rw[hws.1];decide),List.drop_of_length_le (by rw[List.length_append,hws.1];decide),List.append_nil]
   rw[e3]at ho3;clear hg3 hS0 e3 hS ho2;obtain⟨V0,hV0⟩:∃V0,Hid (s++Zc3=V0):=⟨_,rfl⟩;have hW0:Ws 16 V0:=hV0.out▸Zq2 hws;rw[hV0.out]at ho3;have hx1:=Zcr ho3 (i:=12) (by rw[hW0.1];decide);have e0:IntKind.u32.wrap (many:Int)=many:=by unfold W32 at hmany;rw[IntKind.wrap_u32];omega
   have e1:=Zfs (hW0.2 12) hmany
   go_wp2_with (refine Zea (xs:=V0) (i:=12) (Zct (at0 V0 12) many) rfl rfl rfl rfl (by kernel_rfl) rfl rfl ho3 (by rw[hW0.1];decide) ?_)
   intro w4 ho4 hg4;have hW1:=hW0.set (i:=12) (Zcs (hW0.2 12) hmany);have hk4:Chg [gv] w2 w4:=hk3.trans (Chg.of_grown (G:=[gv]) hg4 (by simp));obtain⟨V1,hV1⟩:∃V1,Hid (V0.set 12 (Zct (at0 V0 12) many)=V1):=⟨_,rfl⟩;rw[hV1.out]at hW1 ho4;clear hg4 hk3 ho3 hx1 e0 e1
   go_upto_if 55 with fail
   go_cut [55] (fun _ w'=>∃V,Hid (Zhh s many last=V)∧Ws 16 V∧Arr w' gv 199 encU V∧Chg [gv] w2 w')
   case first =>
    cases last
    ·have hst:Hid (Zhh s many false=V1):=by
      show _=_;rw[←hV1.out,←hV0.out];rfl
     go_wp2_with fail
     go_meet;exact⟨V1,hst,hW1,ho4,hk4⟩
    ·have hx1:=Zcr ho4 (i:=14) (by rw[hW1.1];decide);have hmax:W32 4294967295:=by unfold W32;decide
     have e1:bits .xor .u32 IntKind.u32.max (at0 V1 14:Nat)=(Zct (at0 V1 14) 4294967295:Nat):=by
      have:=Zfs hmax (hW1.2 14);rw[show Zct (at0 V1 14) 4294967295=Zct 4294967295 (at0 V1 14) from Nat.xor_comm _ _];exact this
     go_wp2_with (refine Zea (xs:=V1) (i:=14) (Zct (at0 V1 14) 4294967295) rfl rfl rfl (by first|rfl|exact congrArg (Value.int IntKind.u32) e1) (by kernel_rfl) rfl rfl ho4 (by rw[hW1.1];decide) ?_)
     intro w5 ho5 hg5
     have hst:Hid (Zhh s many true=V1.set 14 (Zct (at0 V1 14) 4294967295)):=by
      show _=_;rw[←hV1.out,←hV0.out];rfl
     go_wp2_with fail
     go_meet;exact⟨_,hst,hW1.set (i:=14) (Zcs (hW1.2 14) hmax),ho5,hk4.trans (Chg.of_grown (G:=[gv]) hg5 (by simp))⟩
   case rest =>
    obtain⟨V2,hst,hW2,ho5,hk5⟩:=hcut;obtain⟨w5,hw5⟩:∃w5:World,w5=wc:=⟨_,rfl⟩;subst hw5;clear hk4 ho4 hW1;have hgmv:gm≠gv:=by omega
    have hgsv:gs≠gv:=by omega
    have hm5:Arr w5 gm 199 encU M:=Blk.chg (Blk.chg (Blk.kept hown hblv) hk2 (by simpa using hgmv)) hk5 (by simpa using hgmv);have hs5:Arr w5 gs 163 encU s:=Blk.chg (Blk.chg (Blk.kept (Blk.below Hs.out hbl Hs.out.lt) hblv) hk2 (by simpa using hgsv)) hk5 (by simpa using hgsv);have hTg:=HT.out.lt;have hgvw:w.heap.size≤gv:=by have:=hbl.size;have:=hgv.out;omega
    have hT5:Tabs w5.cell?:=(hTW.chg hk2 (by omega)).chg hk5 (by omega);have hA0:Chg [gv] w w5:=(((Chg.of_below hbl (Nat.le_refl _)).trans (Chg.of_below hblv (Nat.le_refl _))).trans hk2).trans hk5;have hz5:w.heap.size≤w5.heap.size:=hA0.size;have HT5:=Lib.hid hT5;have HS5:=Lib.hid hs5;have HA0:=Lib.hid hA0;clear hown hk2 hk5 hTW hT2 hz2 hblv hszv hT5 hs5 hA0 hbl hki;obtain⟨OA,hOA⟩:∃OA,Hid (Zyq=OA):=⟨_,rfl⟩;obtain⟨LA,hLA⟩:∃LA,Hid (Zrn=LA):=⟨_,rfl⟩;have HxO:Hid (∀k,k<10→∀w,(Instr.index 202 OA (.int .i64 (k:Nat))).run Tryz.prog w=.ok (.agg ((Zrl k).map encN).toArray) w):=by rw[←hOA.out];exact Zvf
    have HxL:Hid (∀k,k<8→∀w,(Instr.index 204 LA (.int .i64 (k:Nat))).run Tryz.prog w=.ok (.agg ((Zf1 k).map encN).toArray) w):=by rw[←hLA.out];exact Zs5
    have hcs:=Zom (n:=160) (l:=Zff.flatten) (by kernel_rfl) HT5.out.order
    go_wp2_with fail
    refine Zhp (n:=160) (Zff.flatten.map encN) hOA.out.symm rfl rfl (by kernel_rfl) (by kernel_rfl) (by kernel_rfl) hcs ?_;clear hcs
    go_wp2_with fail
    go_loopw [61] (fun i wr=>∃k:Nat,k≤10∧i=.int .i64 k∧Arr wr gv 199 encU (roundsTo M V2 k)∧Chg [gv] w5 wr) (fun i _=>10-(intOf i).toNat)
    case atStart=>exact⟨0,Nat.zero_le _,rfl,ho5,Chg.refl _ _⟩
    case round =>
     clear ho5;obtain⟨k,hk,rfl,hoR,hkR⟩:=hrel;obtain⟨VR,hVR⟩:∃VR,Hid (roundsTo M V2 k=VR):=⟨_,rfl⟩;have hWR:Ws 16 VR:=hVR.out▸hW2.roundsTo M k;rw[hVR.out]at hoR;have hzR:=hkR.size
     by_cases hlt:k<10
     ·have hki:(k:Int)<10:=by omega
      obtain⟨RV,hRV⟩:∃RV:Value,Hid (RV=.agg ((Zrl k).map encN).toArray):=⟨_,rfl⟩;have hxk:∀w,(Instr.index 202 OA (.int .i64 (k:Nat))).run Tryz.prog w=.ok RV w:=by rw[hRV.out];exact HxO.out k hlt
      obtain⟨O,hO⟩:∃O,Hid (Zrl k=O):=⟨_,rfl⟩;have hOl:O.length=16:=hO.out▸Zuy hlt;have hgvR:=hoR.lt;obtain⟨ws,hws'⟩:∃ws,Hid (ws=wr):=⟨_,rfl⟩;rw[hO.out]at hRV
      go_wp2_with (refine Zck (n:=16) rfl rfl rfl hRV.out (by kernel_rfl) (by simp[hOl]) (Blk.new _ _ _) rfl (by simp;intro x _;rfl) ?_)
      intro w7 hO7 hg7;have hO7':Arr w7 wr.heap.size 201 encN O:=hO7;have hb7:Below wr.heap.size wr w7:=Zab (Zac _ _) (Zau _ (Nat.le_refl _)) hg7 (by intro k e;injection e;omega);have ho7:Arr w7 gv 199 encU VR:=Blk.kept hoR hb7;have hk7:Chg [gv] w5 w7:=hkR.trans (Chg.of_below hb7 (Nat.le_refl _));obtain⟨go,hgo⟩:∃go,Hid (wr.heap.size=go):=⟨_,rfl⟩;rw[hgo.out]at hO7' hgvR⊢;have hgo2:go<w7.heap.size:=hO7'.lt;have hgo3:go≠gv:=by omega
      have hm7:Arr w7 gm 199 encU M:=Blk.chg hm5 hk7 (by simpa using hgmv);have hgm2:gm<w7.heap.size:=hm7.lt;have hT7:Tabs w7.cell?:=HT5.out.chg hk7 (by omega);have hz7:=hk7.size;clear hO7 hg7 hb7 hoR hkR hxk;have hcs:=Zom (n:=32) (l:=((List.range 8).map Zf1).flatten) (by kernel_rfl) hT7.lanes
      go_wp2_with (refine Zbd (n:=32) (v:=LA) ((((List.range 8).map Zf1).flatten).map encN) hLA.out.symm rfl rfl rfl (by kernel_rfl) (by kernel_rfl) (by kernel_rfl) hcs ?_)
      clear hcs
      go_loopw [65] (fun i wr=>∃j:Nat,j≤8∧i=.int .i64 j∧Arr wr gv 199 encU (lanesTo M k VR j)∧Chg [gv] w7 wr) (fun i _=>8-(intOf i).toNat)
      case atStart=>exact⟨0,Nat.zero_le _,rfl,ho7,Chg.refl _ _⟩
      case round =>
       clear ho7 hT7;obtain⟨j,hj,rfl,hoJ,hkJ⟩:=hrel;obtain⟨VJ,hVJ⟩:∃VJ,Hid (lanesTo M k VR j=VJ):=⟨_,rfl⟩;have hWJ:Ws 16 VJ:=hVJ.out▸hWR.lanesTo M k j;rw[hVJ.out]at hoJ;have hzJ:=hkJ.size
       by_cases hltj:j<8
       ·have hji:(j:Int)<8:=by omega
        obtain⟨la,hla,hla1⟩:∃la,Hid ((lane j).1=la)∧la<16:=⟨_,rfl,(Znr hltj).1⟩;obtain⟨lb,hlb,hlb1⟩:∃lb,Hid ((lane j).2.1=lb)∧lb<16:=⟨_,rfl,(Znr hltj).2.1⟩;obtain⟨lc,hlc',hlc1⟩:∃lc,Hid ((lane j).2.2.1=lc)∧lc<16:=⟨_,rfl,(Znr hltj).2.2.1⟩;obtain⟨ld,hld,hld1⟩:∃ld,Hid ((lane j).2.2.2=ld)∧ld<16:=⟨_,rfl,(Znr hltj).2.2.2⟩;have hLl:Zf1 j=[la,lb,lc,ld]:=by unfold Zf1;rw[hla.out,hlb.out,hlc'.out,hld.out]
        obtain⟨LR,hLR⟩:∃LR:Value,Hid (LR=.agg #[encN la,encN lb,encN lc,encN ld]):=⟨_,rfl⟩
        have hxj:∀w,(Instr.index 204 LA (.int .i64 (j:Nat))).run Tryz.prog w=.ok LR w:=by
         rw[hLR.out];have:=HxL.out j hltj;rw[hLl]at this;exact this
        have hgvJ:=hoJ.lt
        go_wp2_with (refine Zck (n:=4) rfl rfl rfl hLR.out (by kernel_rfl) rfl (Blk.new _ _ _) rfl rfl ?_)
        intro xa hL0 hg0;have hb0:Below wr.heap.size wr xa:=Zab (Zac _ _) (Zau _ (Nat.le_refl _)) hg0 (by intro k e;injection e;omega);have hoJ0:Arr xa gv 199 encU VJ:=Blk.kept hoJ hb0;have hk70:Chg [gv] w7 xa:=hkJ.trans (Chg.of_below hb0 (Nat.le_refl _));obtain⟨gl,hgl⟩:∃gl,Hid (wr.heap.size=gl):=⟨_,rfl⟩;rw[hgl.out]at hL0 hgvJ⊢;have l0:=hL0.cell 0;have l1:=hL0.cell 1;have l2:=hL0.cell 2;have l3:=hL0.cell 3;simp[encN]at l0 l1 l2 l3;clear hg0 hb0 hoJ hkJ hxj hLl hL0;have hp16:=Zyp (i:=2*j) hlt (by omega);have hq16:=Zyp (i:=2*j+1) hlt (by omega)
        have hstep:lanesTo M k VR (j+1)=mix VJ la lb lc ld (at0 M (ord k (2*j))) (at0 M (ord k (2*j+1))):=by
         rw[Zji,hVJ.out];unfold Zqb;rw[hla.out,hlb.out,hlc'.out,hld.out]
        have hOo:∀i,i<16→xa.cell? ⟨go,i,none⟩=some (.int .i64 (ord k i:Nat)):=fun i hi=>by
         have h1:=Arr.at hO7' i (by rw[hOl];exact hi);rw[Zgm (by rw[hOl];exact hi)]at h1;have h2:=(hk70.cell go i hgo2 (by simpa using hgo3)).trans h1;rw[h2,←hO.out];rfl
        have hMm:∀i,i<16→xa.cell? ⟨gm,i,none⟩=some (.int .u32 (at0 M i:Nat)):=fun i hi =>
         (hk70.cell gm i hgm2 (by simpa using hgmv)).trans (Zcr hm7 (by rw[hWM.1];exact hi))
        have hpo:=hOo (2*j) (by omega);have hqo:=hOo (2*j+1) (by omega);have hpm:=hMm _ hp16;have hqm:=hMm _ hq16;clear hOo hMm;generalize ord k (2*j)=p at hstep hp16 hpo hpm;generalize ord k (2*j+1)=q at hstep hq16 hqo hqm;generalize at0 M p=x at hpm hstep;generalize at0 M q=y at hqm hstep;obtain⟨j2,hj2,hj21⟩:∃j2,Hid (2*j=j2)∧j2<16:=⟨_,rfl,by omega⟩;obtain⟨j3,hj3,hj31⟩:∃j3,Hid (2*j+1=j3)∧j3<16:=⟨_,rfl,by omega⟩;rw[hj2.out]at hpo;rw[hj3.out]at hqo;have f4:IntKind.i64.wrap (2*(j:Int))=j2:=by have:=hj2.out;rw[Zj6 _ (by omega) (by omega)];omega
        have f5:IntKind.i64.wrap ((j2:Int)+1)=j3:=by have:=hj2.out;have:=hj3.out;rw[Zj6 _ (by omega) (by omega)];omega
        have i1:(p:Int)<16:=by omega
        have i2:(q:Int)<16:=by omega
        have i3:(la:Int)<16:=by omega
        have i4:(lb:Int)<16:=by omega
        have i5:(lc:Int)<16:=by omega
        have i6:(ld:Int)<16:=by omega
        have i7:(j2:Int)<16:=by omega
        have i8:(j3:Int)<16:=by omega
        have hgo4:go<xa.heap.size:=Nat.lt_of_lt_of_le hgo2 hk70.size;have hgm4:gm<xa.heap.size:=Nat.lt_of_lt_of_le hgm2 hk70.size;have Hstep:=Lib.hid hstep;clear hstep
        go_wp2_with fail
        refine Zr [11] (.q 0 (.q 1 (.q 2 (.q 3 (.q 4 (.q 5 (.q 6 (.q 7 (.q 8 (.q 9 (.q 10 (.qc 11 .nil)))))))))))) fun x0 hS=>?_
        repeat((first|refine pq (h:=⟨_,fun w' hS=>by(have h1:=Zaa hS _ _ l0;have h2:=Zaa hS _ _ l1;have h3:=Zaa hS _ _ l2;have h4:=Zaa hS _ _ l3;go_simp;exact rfl),?_⟩)|refine Zq ?_);simp only[sx])
        refine Zah ?_;have hoJ0:=Blk.kept hoJ0 hS;have hpo:=Zaa hS _ _ hpo;have hqo:=Zaa hS _ _ hqo;have hpm:=Zaa hS _ _ hpm;have hqm:=Zaa hS _ _ hqm;have hk70:=hk70.trans (Chg.of_below hS (Nat.le_refl _));have hgo4:=Nat.lt_of_lt_of_le hgo4 hS.size;have hgm4:=Nat.lt_of_lt_of_le hgm4 hS.size;clear hS l0 l1 l2 l3;obtain⟨v0,rfl⟩:∃v,v=VJ:=⟨_,rfl⟩;have hgo2:=hgo4;have hgm2:=hgm4;have hgo3:go∉[gv]:=by simpa using hgo3
        have hgm3:gm∉[gv]:=by simpa using hgmv
        have ho0:=hoJ0;have hw0:=hWJ;have hk0:Chg [gv] x0 x0:=Chg.refl _ _;clear hoJ0 hWJ
        go_wp2_with fail
        obtain⟨v1,hv1⟩:∃v,Hid (mixA v0 la lb x=v):=⟨_,rfl⟩;have hw1:Ws 16 v1:=hv1.out▸hw0.mixA la lb x;have ep:=Zcr ho0 (i:=la) (by have:=hw0.1;omega);have eq:=Zcr ho0 (i:=lb) (by have:=hw0.1;omega);have ec:=(hk0.cell _ _ hgo2 hgo3).trans hpo;have em:=(hk0.cell _ _ hgm2 hgm3).trans hpm;have e1:=Zq5 (x:=at0 v0 la) (y:=at0 v0 lb) (z:=x);have e1b:=Zof (x:=at0 v0 la) (y:=at0 v0 lb) (z:=x);refine Zr [15] (.q 0 (.q 1 (.q 2 (.q 3 (.q 4 (.q 5 (.q 6 (.q 7 (.q 8 (.q 9 (.q 10 (.q 11 (.q 12 (.q 13 (.q 14 (.l 15 .nil)))))))))))))))) fun W hS=>?_
        repeat((first|refine pq (h:=⟨_,fun w' hS=>by(have h1:=Zaa hS _ _ ep;have h2:=Zaa hS _ _ eq;have h3:=Zaa hS _ _ ec;have h4:=Zaa hS _ _ em;go_simp;exact rfl),?_⟩)|refine Zq ?_);simp only[sx])
        refine Zc fun K hK=>?_
        try simp only[sy]
        refine Zbt (xs:=v0) (add3 (at0 v0 la) (at0 v0 lb) x) rfl rfl rfl (by kernel_rfl) rfl rfl (ho0.kept hS) (by have:=hw0.1;omega) ?_;intro x1 ho1 hg;rw[show v0.set la (add3 (at0 v0 la) (at0 v0 lb) x)=v1 from hv1.out]at ho1;have hk1:Chg [gv] x0 x1:=hk0.trans ((Chg.of_below hS (Nat.le_refl _)).trans (.of_grown hg (by simp)));clear hg hS e1 e1b ep eq ec em;refine hK.out _ _ ?_;clear hK K
        try simp only[sx]
        refine Zah ?_
        go_wp2_with fail
        obtain⟨v2,hv2⟩:∃v,Hid (mixD v1 ld la 16=v):=⟨_,rfl⟩;have hw2:Ws 16 v2:=hv2.out▸hw1.mixD ld la 16;have ep:=Zcr ho1 (i:=ld) (by have:=hw1.1;omega);have eq:=Zcr ho1 (i:=la) (by have:=hw1.1;omega);have e1:=Zfs (hw1.2 ld) (hw1.2 la);refine Zr [10] (.q 0 (.q 1 (.q 2 (.q 3 (.q 4 (.q 5 (.q 6 (.q 7 (.l 8 (.q 9 (.l 10 .nil))))))))))) fun W hS=>?_
        repeat((first|refine pq (h:=⟨_,fun w' hS=>by(have h1:=Zaa hS _ _ ep;have h2:=Zaa hS _ _ eq;go_simp;exact rfl),?_⟩)|refine Zq ?_);simp only[sx])
        refine Zd fun K hK=>?_
        try simp only[sy]
        go_simp;refine(Zso (Zct (at0 v1 ld) (at0 v1 la)) _ (Zcs (hw1.2 _) (hw1.2 _))).mono ?_;rintro e W2 ⟨rfl,rfl⟩;refine hK.out _ _ (hS) fun hS=>?_
        clear hK K
        try simp only[sx]
        repeat(refine Zq ?_;simp only[sx])
        refine Zc fun K hK=>?_
        try simp only[sy]
        refine Zbt (xs:=v1) (rot (Zct (at0 v1 ld) (at0 v1 la)) 16) rfl rfl rfl (by kernel_rfl) rfl rfl (ho1.kept hS) (by have:=hw1.1;omega) ?_;intro x2 ho2 hg;rw[show v1.set ld (rot (Zct (at0 v1 ld) (at0 v1 la)) 16)=v2 from hv2.out]at ho2;have hk2:Chg [gv] x0 x2:=hk1.trans ((Chg.of_below hS (Nat.le_refl _)).trans (.of_grown hg (by simp)));clear hg hS e1 ep eq;refine hK.out _ _ ?_;clear hK K
        try simp only[sx]
        refine Zah ?_
        go_wp2_with fail
        obtain⟨v3,hv3⟩:∃v,Hid (mixC v2 lc ld=v):=⟨_,rfl⟩;have hw3:Ws 16 v3:=hv3.out▸hw2.mixC lc ld;have ep:=Zcr ho2 (i:=lc) (by have:=hw2.1;omega);have eq:=Zcr ho2 (i:=ld) (by have:=hw2.1;omega);have e1:=Zq6 (x:=at0 v2 lc) (y:=at0 v2 ld);refine Zr [8] (.q 0 (.q 1 (.q 2 (.q 3 (.q 4 (.q 5 (.q 6 (.q 7 (.l 8 .nil))))))))) fun W hS=>?_
        repeat((first|refine pq (h:=⟨_,fun w' hS=>by(have h1:=Zaa hS _ _ ep;have h2:=Zaa hS _ _ eq;go_simp;exact rfl),?_⟩)|refine Zq ?_);simp only[sx])
        refine Zc fun K hK=>?_
        try simp only[sy]
        refine Zbt (xs:=v2) (add2 (at0 v2 lc) (at0 v2 ld)) rfl rfl rfl (by kernel_rfl) rfl rfl (ho2.kept hS) (by have:=hw2.1;omega) ?_;intro x3 ho3 hg;rw[show v2.set lc (add2 (at0 v2 lc) (at0 v2 ld))=v3 from hv3.out]at ho3;have hk3:Chg [gv] x0 x3:=hk2.trans ((Chg.of_below hS (Nat.le_refl _)).trans (.of_grown hg (by simp)));clear hg hS e1 ep eq;refine hK.out _ _ ?_;clear hK K
        try simp only[sx]
        refine Zah ?_
        go_wp2_with fail
        obtain⟨v4,hv4⟩:∃v,Hid (mixD v3 lb lc 12=v):=⟨_,rfl⟩;have hw4:Ws 16 v4:=hv4.out▸hw3.mixD lb lc 12;have ep:=Zcr ho3 (i:=lb) (by have:=hw3.1;omega);have eq:=Zcr ho3 (i:=lc) (by have:=hw3.1;omega);have e1:=Zfs (hw3.2 lb) (hw3.2 lc);refine Zr [10] (.q 0 (.q 1 (.q 2 (.q 3 (.q 4 (.q 5 (.q 6 (.q 7 (.l 8 (.q 9 (.l 10 .nil))))))))))) fun W hS=>?_
        repeat((first|refine pq (h:=⟨_,fun w' hS=>by(have h1:=Zaa hS _ _ ep;have h2:=Zaa hS _ _ eq;go_simp;exact rfl),?_⟩)|refine Zq ?_);simp only[sx])
        refine Zd fun K hK=>?_
        try simp only[sy]
        go_simp;refine(Zsp (Zct (at0 v3 lb) (at0 v3 lc)) _ (Zcs (hw3.2 _) (hw3.2 _))).mono ?_;rintro e W2 ⟨rfl,rfl⟩;refine hK.out _ _ (hS) fun hS=>?_
        clear hK K
        try simp only[sx]
        repeat(refine Zq ?_;simp only[sx])
        refine Zc fun K hK=>?_
        try simp only[sy]
        refine Zbt (xs:=v3) (rot (Zct (at0 v3 lb) (at0 v3 lc)) 12) rfl rfl rfl (by kernel_rfl) rfl rfl (ho3.kept hS) (by have:=hw3.1;omega) ?_;intro x4 ho4 hg;rw[show v3.set lb (rot (Zct (at0 v3 lb) (at0 v3 lc)) 12)=v4 from hv4.out]at ho4;have hk4:Chg [gv] x0 x4:=hk3.trans ((Chg.of_below hS (Nat.le_refl _)).trans (.of_grown hg (by simp)));clear hg hS e1 ep eq;refine hK.out _ _ ?_;clear hK K
        try simp only[sx]
        refine Zah ?_
        go_wp2_with fail
        obtain⟨v5,hv5⟩:∃v,Hid (mixA v4 la lb y=v):=⟨_,rfl⟩;have hw5:Ws 16 v5:=hv5.out▸hw4.mixA la lb y;have ep:=Zcr ho4 (i:=la) (by have:=hw4.1;omega);have eq:=Zcr ho4 (i:=lb) (by have:=hw4.1;omega);have ec:=(hk4.cell _ _ hgo2 hgo3).trans hqo;have em:=(hk4.cell _ _ hgm2 hgm3).trans hqm;have e1:=Zq5 (x:=at0 v4 la) (y:=at0 v4 lb) (z:=y);have e1b:=Zof (x:=at0 v4 la) (y:=at0 v4 lb) (z:=y);refine Zr [16] (.q 0 (.q 1 (.q 2 (.q 3 (.q 4 (.q 5 (.q 6 (.q 7 (.q 8 (.q 9 (.q 10 (.q 11 (.q 12 (.q 13 (.q 14 (.q 15 (.l 16 .nil))))))))))))))))) fun W hS=>?_
        repeat((first|refine pq (h:=⟨_,fun w' hS=>by(have h1:=Zaa hS _ _ ep;have h2:=Zaa hS _ _ eq;have h3:=Zaa hS _ _ ec;have h4:=Zaa hS _ _ em;go_simp;exact rfl),?_⟩)|refine Zq ?_);simp only[sx])
        refine Zc fun K hK=>?_
        try simp only[sy]
        refine Zbt (xs:=v4) (add3 (at0 v4 la) (at0 v4 lb) y) rfl rfl rfl (by kernel_rfl) rfl rfl (ho4.kept hS) (by have:=hw4.1;omega) ?_;intro x5 ho5 hg;rw[show v4.set la (add3 (at0 v4 la) (at0 v4 lb) y)=v5 from hv5.out]at ho5;have hk5:Chg [gv] x0 x5:=hk4.trans ((Chg.of_below hS (Nat.le_refl _)).trans (.of_grown hg (by simp)));clear hg hS e1 e1b ep eq ec em;refine hK.out _ _ ?_;clear hK K
        try simp only[sx]
        refine Zah ?_
        go_wp2_with fail
        obtain⟨v6,hv6⟩:∃v,Hid (mixD v5 ld la 8=v):=⟨_,rfl⟩;have hw6:Ws 16 v6:=hv6.out▸hw5.mixD ld la 8;have ep:=Zcr ho5 (i:=ld) (by have:=hw5.1;omega);have eq:=Zcr ho5 (i:=la) (by have:=hw5.1;omega);have e1:=Zfs (hw5.2 ld) (hw5.2 la);refine Zr [10] (.q 0 (.q 1 (.q 2 (.q 3 (.q 4 (.q 5 (.q 6 (.q 7 (.l 8 (.q 9 (.l 10 .nil))))))))))) fun W hS=>?_
        repeat((first|refine pq (h:=⟨_,fun w' hS=>by(have h1:=Zaa hS _ _ ep;have h2:=Zaa hS _ _ eq;go_simp;exact rfl),?_⟩)|refine Zq ?_);simp only[sx])
        refine Zd fun K hK=>?_
        try simp only[sy]
        go_simp;refine(Zup (Zct (at0 v5 ld) (at0 v5 la)) _ (Zcs (hw5.2 _) (hw5.2 _))).mono ?_;rintro e W2 ⟨rfl,rfl⟩;refine hK.out _ _ (hS) fun hS=>?_
        clear hK K
        try simp only[sx]
        repeat(refine Zq ?_;simp only[sx])
        refine Zc fun K hK=>?_
        try simp only[sy]
        refine Zbt (xs:=v5) (rot (Zct (at0 v5 ld) (at0 v5 la)) 8) rfl rfl rfl (by kernel_rfl) rfl rfl (ho5.kept hS) (by have:=hw5.1;omega) ?_;intro x6 ho6 hg;rw[show v5.set ld (rot (Zct (at0 v5 ld) (at0 v5 la)) 8)=v6 from hv6.out]at ho6;have hk6:Chg [gv] x0 x6:=hk5.trans ((Chg.of_below hS (Nat.le_refl _)).trans (.of_grown hg (by simp)));clear hg hS e1 ep eq;refine hK.out _ _ ?_;clear hK K
        try simp only[sx]
        refine Zah ?_
        go_wp2_with fail
        obtain⟨v7,hv7⟩:∃v,Hid (mixC v6 lc ld=v):=⟨_,rfl⟩;have hw7:Ws 16 v7:=hv7.out▸hw6.mixC lc ld;have ep:=Zcr ho6 (i:=lc) (by have:=hw6.1;omega);have eq:=Zcr ho6 (i:=ld) (by have:=hw6.1;omega);have e1:=Zq6 (x:=at0 v6 lc) (y:=at0 v6 ld);refine Zr [8] (.q 0 (.q 1 (.q 2 (.q 3 (.q 4 (.q 5 (.q 6 (.q 7 (.l 8 .nil))))))))) fun W hS=>?_
        repeat((first|refine pq (h:=⟨_,fun w' hS=>by(have h1:=Zaa hS _ _ ep;have h2:=Zaa hS _ _ eq;go_simp;exact rfl),?_⟩)|refine Zq ?_);simp only[sx])
        refine Zc fun K hK=>?_
        try simp only[sy]
        refine Zbt (xs:=v6) (add2 (at0 v6 lc) (at0 v6 ld)) rfl rfl rfl (by kernel_rfl) rfl rfl (ho6.kept hS) (by have:=hw6.1;omega) ?_;intro x7 ho7 hg;rw[show v6.set lc (add2 (at0 v6 lc) (at0 v6 ld))=v7 from hv7.out]at ho7;have hk7:Chg [gv] x0 x7:=hk6.trans ((Chg.of_below hS (Nat.le_refl _)).trans (.of_grown hg (by simp)));clear hg hS e1 ep eq;refine hK.out _ _ ?_;clear hK K
        try simp only[sx]
        refine Zah ?_
        go_wp2_with fail
        obtain⟨v8,hv8⟩:∃v,Hid (mixD v7 lb lc 7=v):=⟨_,rfl⟩;have hw8:Ws 16 v8:=hv8.out▸hw7.mixD lb lc 7;have ep:=Zcr ho7 (i:=lb) (by have:=hw7.1;omega);have eq:=Zcr ho7 (i:=lc) (by have:=hw7.1;omega);have e1:=Zfs (hw7.2 lb) (hw7.2 lc);refine Zr [10] (.q 0 (.q 1 (.q 2 (.q 3 (.q 4 (.q 5 (.q 6 (.q 7 (.l 8 (.q 9 (.l 10 .nil))))))))))) fun W hS=>?_
        repeat((first|refine pq (h:=⟨_,fun w' hS=>by(have h1:=Zaa hS _ _ ep;have h2:=Zaa hS _ _ eq;go_simp;exact rfl),?_⟩)|refine Zq ?_);simp only[sx])
        refine Zd fun K hK=>?_
        try simp only[sy]
        go_simp;refine(Zuq (Zct (at0 v7 lb) (at0 v7 lc)) _ (Zcs (hw7.2 _) (hw7.2 _))).mono ?_;rintro e W2 ⟨rfl,rfl⟩;refine hK.out _ _ (hS) fun hS=>?_
        clear hK K
        try simp only[sx]
        repeat(refine Zq ?_;simp only[sx])
        refine Zc fun K hK=>?_
        try simp only[sy]
        refine Zbt (xs:=v7) (rot (Zct (at0 v7 lb) (at0 v7 lc)) 7) rfl rfl rfl (by kernel_rfl) rfl rfl (ho7.kept hS) (by have:=hw7.1;omega) ?_;intro x8 ho8 hg;rw[show v7.set lb (rot (Zct (at0 v7 lb) (at0 v7 lc)) 7)=v8 from hv8.out]at ho8;have hk8:Chg [gv] x0 x8:=hk7.trans ((Chg.of_below hS (Nat.le_refl _)).trans (.of_grown hg (by simp)));clear hg hS e1 ep eq;refine hK.out _ _ ?_;clear hK K
        try simp only[sx]
        refine Zah ?_
        go_wp2_with fail
        have hmx:mix v0 la lb lc ld x y=v8:=by
         unfold mix;rw[hv1.out,hv2.out,hv3.out,hv4.out,hv5.out,hv6.out,hv7.out,hv8.out]
        go_roundw
        case rel=>exact⟨j+1,by omega,by go_num,by rw[Hstep.out,hmx];exact ho8,hk70.trans hk8⟩
        case measure=>simp[intOf];omega
       ·have hj8:j=8:=by omega
        rw[hj8]at hVJ;rw[←hVJ.out]at hoJ;clear hj8 hVJ hWJ;go_wp2;go_roundw
        case rel=>exact⟨k+1,by omega,by go_num,by rw[Zh4,hVR.out];exact hoJ,hk7.trans hkJ⟩
        case measure=>simp[intOf];omega
     ·have hk10:k=10:=by omega
      have HK:=Lib.hid hk10;clear hk10;have hki:¬(k:Int)<10:=by omega
      obtain⟨w9,hw9⟩:∃w9,w9=wr:=⟨_,rfl⟩;rw[←hw9]at hoR hkR hzR⊢;clear hw9;have hs9:Arr w9 gs 163 encU s:=Blk.chg HS5.out hkR (by simpa using hgsv);have hgs9:=hs9.lt;have hgv9:=hoR.lt;have hA9:Chg [gs] w w9:=(HA0.out.trans hkR).sub (fun g hg=>.inr (by rw[show g=gv from by simpa using hg];exact hgvw));clear hkR
      go_wp2_with fail
      go_loopw [166] (fun i wr=>∃j:Nat,j≤8∧i=.int .i64 j∧Arr wr gs 163 encU (Ziw s VR j)∧Chg [gs] w9 wr) (fun i _=>8-(intOf i).toNat)
      case atStart=>exact⟨0,Nat.zero_le _,rfl,by rw[Zsu hws];exact hs9,Chg.refl _ _⟩
      case round =>
       clear hs9;obtain⟨j,hj,rfl,hoj,hkj⟩:=hrel
       by_cases hltj:j<8
       ·have hji:(j:Int)<8:=by omega
        have hji':(j:Int)<16:=by omega
        have hVj:∀i,i<16→wr.cell? ⟨gv,i,none⟩=some (.int .u32 (at0 VR i:Nat)):=fun i hi =>
         (hkj.cell gv i hgv9 (by simpa using Ne.symm hgsv)).trans (Zcr hoR (by rw[hWR.1];exact hi))
        have c1:=hVj j (by omega);have c2:=hVj (j+8) (by omega);have c3:=Zcr hoj (i:=j) (by rw[Zgd];exact hltj);rw[Zv7 hltj]at c3;have hn:=Zsv s VR hltj;have x1:=Zfs (hWR.2 j) (hWR.2 (j+8));have x2:=Zfs (hws.2 j) (Zcs (hWR.2 j) (hWR.2 (j+8)));rw[←Zv0]at x2;obtain⟨j8,hj8,hj81⟩:∃j8,Hid (j+8=j8)∧j8<16:=⟨_,rfl,by omega⟩;rw[hj8.out]at c2 x1 x2;have f1:IntKind.i64.wrap ((j:Int)+8)=j8:=by have:=hj8.out;rw[Zj6 _ (by omega) (by omega)];omega
        have f2:(j8:Int)<16:=by omega
        have Hn:=Lib.hid hn;have hlen:=Zgd s VR j;generalize hP:Ziw s VR j=P at hoj Hn hlen;generalize Zgk s VR j=z at x2 Hn;clear hn hVj hP
        go_wp2_with fail
        refine Zt (fun w'=>True) (fun w'=>Below wr.heap.size wr w') [16] (.q 0 (.q 1 (.q 2 (.q 3 (.q 4 (.q 5 (.q 6 (.q 7 (.q 8 (.q 9 (.q 10 (.q 11 (.q 12 (.q 13 (.q 14 (.q 15 (.l 16 .nil))))))))))))))))) ?_ ?_
        ·exact⟨trivial,Zad _⟩
        intro W _ hS
        repeat((first|refine pq (h:=⟨_,fun w' hS=>by(have h1:=Zaa hS _ _ c1;have h2:=Zaa hS _ _ c2;have h3:=Zaa hS _ _ c3;go_simp;exact rfl),?_⟩)|refine Zq ?_);simp only[sx])
        refine Zc fun K hK=>?_
        try simp only[sy]
        refine Zbt (xs:=P) z rfl rfl rfl (by kernel_rfl) rfl rfl (Blk.kept hoj hS) (by rw[hlen];exact hltj) ?_;intro w10 ho10 hg10;rw[Hn.out]at ho10;have hk10:Chg [gs] w9 w10:=hkj.trans ((Chg.of_below hS (Nat.le_refl _)).trans (.of_grown hg10 (by simp)));clear hg10;refine hK.out _ _ ?_;clear hK K
        try simp only[sx]
        refine Zah ?_
        go_wp2_with fail
        go_roundw
        case rel=>exact⟨j+1,by omega,by go_num,ho10,hk10⟩
        case measure=>simp[intOf];omega
       ·have hj8:j=8:=by omega
        rw[hj8,Zux]at hoj;clear hj8
        have hfin:∀l,Hid (Zhh s many l=V2)→(List.range 8).map (Zgk s VR)=Zft s b many l:=fun l hl=>by
         unfold Zft;rw[hM.out,hl.out,←HK.out,hVR.out]
        rw[hfin _ hst]at hoj;clear hfin;go_wp2;go_end0;exact⟨rfl,hoj,hA9.trans hkj⟩
end Go.Proofs.YtinibgklgehdpaaGreatDoor
