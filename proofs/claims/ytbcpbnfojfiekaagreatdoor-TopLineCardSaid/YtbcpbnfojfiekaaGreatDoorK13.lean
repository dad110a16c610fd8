/- A part of what the last text stands on. -/
import Derived.Test.YtbcpbnfojfiekaaGreatDoorK05
namespace Go.Proofs.YtbcpbnfojfiekaaGreatDoor
open Go.ChangeShapes Go.WideShapes Go.ChangeAt Go.RowKit Go.Proofs.Tryz Qa Qb Qc
set_option linter.all false
set_option maxHeartbeats 20000000
set_option maxRecDepth 100000
variable{w:World}{t:TypeId}{i j g:Nat}
theorem Zct{xs:List Nat}(h:Arr w g t encU xs)(hi:i<xs.length):w.cell? ⟨g,i,none⟩=some (.int .u32 (at0 xs i:Nat)):=by
 rw[Arr.at h i hi,Zg0 hi];rfl
theorem Zvw:(List.replicate 16 0).map encU=[encU 0,encU 0,encU 0,encU 0,encU 0,encU 0,encU 0,encU 0,encU 0,encU 0,encU 0,encU 0,encU 0,encU 0,encU 0,encU 0]:=rfl
theorem Zpo{x y z:Nat}:IntKind.u32.wrap ((x:Int)+((y:Int)+(z:Int)))=(add3 x y z:Nat):=by
 rw[IntKind.wrap_u32];unfold add3;omega
def Zjj(s v:List Nat)(j:Nat):List Nat:=(List.range 8).map fun i=>if i<j then Zgx s v i else at0 s i
theorem Zgr(s v:List Nat)(j:Nat):(Zjj s v j).length=8:=by simp[Zjj]
theorem Zuv{s v:List Nat}(h:Ws 8 s):Zjj s v 0=s:=by
 refine List.ext_getElem (by rw[Zgr,h.1]) (fun i b a=>?_);simp[Zjj,Zg0 a]
theorem Zw4(s v:List Nat):Zjj s v 8=(List.range 8).map (Zgx s v):=by
 unfold Zjj;refine List.map_congr_left (fun i hi=>?_);rw[if_pos (List.mem_range.1 hi)]
theorem Zyu{s v:List Nat}(a:j<8):at0 (Zjj s v j) j=at0 s j:=by
 rw[←Zg0 (by rw[Zgr];exact a)];simp[Zjj]
theorem Zuw(s v:List Nat)(b:j<8):(Zjj s v j).set j (Zgx s v j)=Zjj s v (j+1):=by
 refine List.ext_getElem (by simp[Zgr]) (fun i a c=>?_);rw[List.getElem_set];simp only[Zjj,List.getElem_map,List.getElem_range];split
 ·rename_i e;subst e;rw[if_pos (by omega)]
 ·rename_i e
  by_cases h:i<j
  ·rw[if_pos h,if_pos (by omega)]
  ·rw[if_neg h,if_neg (by omega)]
theorem Zyl(s v:List Nat)(j:Nat):Zgx s v j=Zcv (at0 s j) (Zcv (at0 v j) (at0 v (j+8))):=by
 unfold Zgx Zcv;exact Nat.xor_assoc _ _ _
theorem Tabs.lt(h:Tabs w.cell?):9<w.heap.size∧10<w.heap.size∧11<w.heap.size :=
 ⟨World.block_lt_of_cell? w _ (h.first 0 (by decide)),World.block_lt_of_cell? w _ (h.order 0 (by decide)),World.block_lt_of_cell? w _ (h.lanes 0 (by decide))⟩
theorem Tabs.chg{a b:World}(h:Tabs a.cell?)(c:Chg [g] a b)(d:9<g∧10<g∧11<g):Tabs b.cell? :=
 ⟨fun i hi=>(c.cell _ i h.lt.1 (by simp;omega)).trans (h.first i hi),fun i hi=>(c.cell _ i h.lt.2.1 (by simp;omega)).trans (h.order i hi),fun i hi=>(c.cell _ i h.lt.2.2 (by simp;omega)).trans (h.lanes i hi)⟩
theorem Zpv{n:Nat}{l:List Nat}(c:l.length=n)(h:∀i,i<n→w.cell? ⟨g,i,none⟩=some (encN (at0 l i))):∀j v,(l.map encN)[j]?=some v→w.cell? ((⟨g,0,none⟩:Addr).add j)=some v:=fun j v b=>by
 have a:j<l.length:=by have:=(List.getElem?_eq_some_iff.1 b).1;simpa using this
 rw[Zbs,Nat.zero_add,h j (by omega),←Zg0 a]
 simpa[a]using b
theorem Zov(a:j<8):(lane j).1<16∧(lane j).2.1<16∧(lane j).2.2.1<16∧(lane j).2.2.2<16:=by
 have:∀j:Fin 8,(lane j).1<16∧(lane j).2.1<16∧(lane j).2.2.1<16∧(lane j).2.2.2<16:=by decide
 exact this ⟨j,a⟩
theorem Zs1(gs:Nat)(s:List Nat)(vb:Value)(b:List UInt8)(many:Nat)(last:Bool)(w:World)(hs:Arr w gs 306 encU s)(S:Ws 8 s)(hb:Zan (View.but w.cell? (some gs)) vb b)(g0:b.length≤64)(h8:W32 many)(hT:Tabs (View.but w.cell? (some gs))) :
 Calls prog 232 #[.pointer (some ⟨gs,0,none⟩),vb,.int .i64 many,.bool last] w fun e w'=>e=.returned (.tuple #[])∧Arr w' gs 306 encU (Zf6 s b many last)∧Chg [gs] w w':=by
 have b6:=hT.mono (View.but_le _ _);obtain⟨A,c,rfl,c6,_,_,_,ap⟩:=hb
 have ca:Hid (0<b.length→∃b' o,A=some ⟨b',o,none⟩∧∀i (hi:i<b.length),w.cell? ⟨b',o+i,none⟩=some (encB b[i])):=fun hp=>by
  obtain⟨b',o,ea,hc⟩:=ap hp;exact⟨b',o,ea,fun i hi=>View.but_le _ _ _ _ (hc i hi)⟩
 clear ap;obtain⟨n,gx⟩:∃n,Hid (b.length=n):=⟨_,rfl⟩;rw[gx.out]at c6 g0⊢;have Hs:=Zb hs;have HT:=Zb b6;clear hs hT b6;go_enter func232,ntmps232;go_wp2
 go_loopw [23] (fun i wr=>∃k:Nat,k≤n∧i=.int .i64 k∧Arr wr w.heap.size 320 encU (words (b.take k))∧Below w.heap.size w wr) (fun i _=>n-(intOf i).toNat)
 case atStart=>exact⟨0,Zf _,rfl,by rw[List.take_zero,Zvy];unfold Arr;rw[Zvw];exact Blk.new _ _ _,Zac _ _⟩
 case round =>
  obtain⟨k,hk,rfl,C,D⟩:=hrel
  by_cases R:k<n
  ·have sd:k<b.length:=by rw[gx.out];exact R
   obtain⟨b0,o0,rfl,hz⟩:=ca.out (by rw[gx.out];omega);have ay:wr.cell? ⟨b0,o0+k,none⟩=some (.int .u8 b[k].toNat):=Zaa D _ _ (hz k sd);clear hz;have sp:=Zct C (i:=k/4) (by rw[Zfu];omega);have d:=Zb (Zt7 b k (by omega) sd);have g1:=Zt8 b k (by omega);have gj:b[k].toNat<256:=UInt8.toNat_lt _;have q1:IntKind.i64.wrap ((k:Int)/4)=((k/4:Nat):Int):=by rw[Zkx _ (by omega) (by omega)];omega
   have q2:Int.tmod (k:Int) 4=((k%4:Nat):Int):=by rw[Int.tmod_eq_emod_of_nonneg (by omega)];omega
   have q3:IntKind.i64.wrap (((k%4:Nat):Int)*8)=((8*(k%4):Nat):Int):=by rw[Zkx _ (by omega) (by omega)];omega
   have hq:k/4<16:=by omega
   have hs:8*(k%4)≤64:=by omega
   have a3:8*(k%4)=0∨8*(k%4)=8∨8*(k%4)=16∨8*(k%4)=24:=by omega
   generalize hm:at0 (words (b.take k)) (k/4)=m at sp d g1;generalize hx:b[k].toNat=x at ay d gj;generalize ct:k/4=q at sp d q1 hq hm;generalize c8:8*(k%4)=t at d g1 q3 hs a3;generalize k%4=r at q2 q3;clear hm hx c8;have d1:(q:Int)<16:=by omega
   have q4:=Zre m x t a3 g1 gj;have qm:min t 32=t:=by omega
   have q6:IntKind.u32.wrap (x:Int)=x:=by rw[IntKind.wrap_u32];omega
   clear g1 a3;obtain⟨y,hy⟩:∃y,Hid (m+x*2^t=y):=⟨_,rfl⟩;rw[hy.out]at q4 d;go_wp2;refine Zr [12] (.q 0 (.q 1 (.q 2 (.q 3 (.q 4 (.q 5 (.q 6 (.q 7 (.q 8 (.q 9 (.q 10 (.q 11 (.l 12 .nil))))))))))))) fun W a=>?_
   repeat((first|refine pq (h:=⟨_,fun w' a=>by(have h1:=Zaa a _ _ ay;have h2:=Zaa a _ _ sp;go_simp;exact rfl),?_⟩)|refine Zq ?_);simp only[sx])
   refine Zc fun K f=>?_
   try simp only[sy]
   refine Zbt (xs:=words (b.take k)) y rfl rfl rfl (by kernel_rfl) rfl rfl (C.kept a) (by rw[Zfu];omega) ?_;intro w3 B s3;rw[d.out]at B;have cb:Below w.heap.size w w3:=(D.trans (a.mono D.size)).trans ((Chg.of_grown (G:=[w.heap.size]) s3 (by simp)).below (by simp) (Zg D.size a.size));refine f.out _ _ ?_;clear f K
   try simp only[sx]
   refine Zai ?_;go_wp2;go_roundw
   case rel=>exact⟨k+1,by omega,by go_num,B,cb⟩
   case measure=>simp[intOf];omega
  ·have aw:k=b.length:=by rw[gx.out];omega
   rw[aw,List.take_length]at C;have su:¬(k:Int)<n:=by omega
   obtain⟨M,hM⟩:∃M,Hid (words b=M):=⟨_,rfl⟩;have bm:Ws 16 M:=hM.out▸Ws.words b;rw[hM.out]at C;clear aw hk;obtain⟨gm,bs⟩:∃gm,Hid (w.heap.size=gm):=⟨_,rfl⟩;rw[bs.out]at C⊢;have aa:=C.lt;have bl:=D.size;go_wp2_with fail;refine Za9 _ _ _ (fun W=>(Code.region _ _ _).wp _ _ _ W) (fun W1 am sb L=>?_);have h9:Arr W1 wr.heap.size 320 encU (List.replicate 16 0):=by unfold Arr;rw[Zvw];exact am
   obtain⟨gv,a8⟩:∃gv,Hid (wr.heap.size=gv):=⟨_,rfl⟩;have b9:=(Hs.out.below D Hs.out.lt).kept L;have cs:=Hs.out.lt;have sv:=(HT.out.mono (Zaa D)).mono (Zaa L);rw[a8.out]at h9 sb aa bl⊢;clear am;refine Zt (fun w'=>Below W1.heap.size W1 w') (fun w'=>Chg [gv] W1 w') [] (.q 0 (.q 1 (.q 2 (.q 3 (.l 4 .nil))))) ?_ ?_
   ·exact⟨Zad _,(Chg.refl _ _).drew⟩
   intro W he a
   repeat(refine Zq ?_;simp only[sx])
   refine Zd fun K f=>?_
   try simp only[sy]
   refine Zky (g:=gv) (off:=0) (g2:=gs) (o2:=0) (n:=8) (ys:=s) _ _ _ _ rfl underlying321 (by kernel_rfl) rfl rfl (h9.kept he) S.1 (by decide) (fun j hj=>by rw[(b9.kept he).cell,Nat.zero_add];simp[hj]) Ztq ?_;intro w2 X ax;have H:=a.trans (Chg.of_grown (G:=[gv]) ax (by simp));refine f.out _ _ (H) fun a=>?_
   clear f K
   try simp only[sx]
   refine Zai ?_;have e2:(List.replicate 16 0).take 0++(s++(List.replicate 16 0).drop (0+8))=s++List.replicate 8 0:=rfl;rw[e2]at X;clear ax he e2 b9 h9 a;have ae:=sv;have bn:=H.size;go_wp2_with fail;refine Zt (fun w'=>Below w2.heap.size w2 w') (fun w'=>Chg [gv] w2 w') [] (.q 0 (.q 1 (.l 2 .nil))) ?_ ?_
   ·exact⟨Zad _,(Chg.refl _ _).drew⟩
   intro W he a
   repeat(refine Zq ?_;simp only[sx])
   refine Zd fun K f=>?_
   try simp only[sy]
   refine Zky (g:=gv) (off:=8) (g2:=9) (o2:=0) (n:=8) (ys:=Zc5) _ _ _ _ rfl underlying321 (by kernel_rfl) rfl rfl (X.kept he) rfl (by rw[Zl,S.1];decide) (fun j hj=>?_) Ztq ?_
   ·have hb:=ae.first j hj;have R:=World.block_lt_of_cell? W1 _ hb
    have d5:9≠gv:=by
     have:=World.block_lt_of_cell? w _ (HT.out.first 0 (by decide));have:=D.size;have:=a8.out;dsimp only at *;omega
    have h3:=(H.cell 9 j R (by simp;omega)).trans hb;rw[Nat.zero_add,Zg0 hj];exact Zaa he _ _ h3
   intro w3 B s3;have gr:=a.trans (Chg.of_grown (G:=[gv]) s3 (by simp));refine f.out _ _ (gr) fun a=>?_
   clear f K
   try simp only[sx]
   refine Zai ?_
   have e3:(s++List.replicate 8 0).take 8++(Zc5++(s++List.replicate 8 0).drop (8+8))=s++Zc5:=by
    rw[List.take_append_of_le_length (by rw[S.1];decide),List.take_of_length_le (by rw[S.1];decide),List.drop_of_length_le (by rw[Zl,S.1];decide),List.append_nil]
   rw[e3]at B;clear s3 he e3 a X;obtain⟨V0,s0⟩:∃V0,Hid (s++Zc5=V0):=⟨_,rfl⟩;have gg:Ws 16 V0:=s0.out▸Zsx S;rw[s0.out]at B;have az:=Zct B (i:=12) (by rw[gg.1];decide);have e0:IntKind.u32.wrap (many:Int)=many:=by unfold W32 at h8;rw[IntKind.wrap_u32];omega
   have e1:=Zf5 (gg.2 12) h8;go_wp2_with (refine Zed (xs:=V0) (i:=12) (Zcv (at0 V0 12) many) rfl rfl rfl rfl (by kernel_rfl) rfl rfl B (by rw[gg.1];decide) ?_);intro w4 I b8;have T:=gg.set (i:=12) (Zcu (gg.2 12) h8);have hf:Chg [gv] w2 w4:=gr.trans (Chg.of_grown (G:=[gv]) b8 (by simp));obtain⟨V1,a4⟩:∃V1,Hid (V0.set 12 (Zcv (at0 V0 12) many)=V1):=⟨_,rfl⟩;rw[a4.out]at T I;clear b8 gr B az e0 e1;go_upto_if 55 with fail
   go_cut [55] (fun _ w'=>∃V,Hid (Zhy s many last=V)∧Ws 16 V∧Arr w' gv 320 encU V∧Chg [gv] w2 w')
   case first =>
    cases last
    ·have gh:Hid (Zhy s many false=V1):=by
      show _=_;rw[←a4.out,←s0.out];rfl
     go_wp2_with fail;go_meet
     exact⟨V1,gh,T,I,hf⟩
    ·have az:=Zct I (i:=14) (by rw[T.1];decide);have sa:W32 4294967295:=by unfold W32;decide
     have e1:bits .xor .u32 IntKind.u32.max (at0 V1 14:Nat)=(Zcv (at0 V1 14) 4294967295:Nat):=by
      have:=Zf5 sa (T.2 14);rw[show Zcv (at0 V1 14) 4294967295=Zcv 4294967295 (at0 V1 14) from Nat.xor_comm _ _];exact this
     go_wp2_with (refine Zed (xs:=V1) (i:=14) (Zcv (at0 V1 14) 4294967295) rfl rfl rfl (by first|rfl|exact congrArg (Value.int IntKind.u32) e1) (by kernel_rfl) rfl rfl I (by rw[T.1];decide) ?_);intro w5 N bk
     have gh:Hid (Zhy s many true=V1.set 14 (Zcv (at0 V1 14) 4294967295)):=by
      show _=_;rw[←a4.out,←s0.out];rfl
     go_wp2_with fail;go_meet
     exact⟨_,gh,T.set (i:=14) (Zcu (T.2 14) sa),N,hf.trans (Chg.of_grown (G:=[gv]) bk (by simp))⟩
   case rest =>
    obtain⟨V2,gh,cd,N,hh⟩:=hcut;obtain⟨w5,J⟩:∃w5:World,w5=wc:=⟨_,rfl⟩;subst J;clear hf I T;have h5:gm≠gv:=by omega
    have ht:gs≠gv:=by omega
    have br:Arr w5 gm 320 encU M:=Blk.chg (Blk.chg (Blk.kept C L) H (by simpa using h5)) hh (by simpa using h5);have bd:Arr w5 gs 306 encU s:=Blk.chg (Blk.chg (Blk.kept (Blk.below Hs.out D Hs.out.lt) L) H (by simpa using ht)) hh (by simpa using ht);have d0:=HT.out.lt;have av:w.heap.size≤gv:=by have:=D.size;have:=a8.out;omega
    have bc:Tabs w5.cell?:=(sv.chg H (by omega)).chg hh (by omega);have sh:Chg [gv] w w5:=(((Chg.of_below D (Za _)).trans (Chg.of_below L (Za _))).trans H).trans hh;have cv:w.heap.size≤w5.heap.size:=sh.size;have ag:=Zb bc;have bi:=Zb bd;have cc:=Zb sh;clear C H hh sv ae bn L sb bc bd sh D su;obtain⟨OA,ai⟩:∃OA,Hid (ordAgg=OA):=⟨_,rfl⟩;obtain⟨LA,b2⟩:∃LA,Hid (Ztj=LA):=⟨_,rfl⟩;have c5:Hid (∀k,k<10→∀w,(Instr.index 323 OA (.int .i64 (k:Nat))).run prog w=.ok (.agg ((Zth k).map encN).toArray) w):=by rw[←ai.out];exact Zxt
    have c7:Hid (∀k,k<8→∀w,(Instr.index 325 LA (.int .i64 (k:Nat))).run prog w=.ok (.agg ((Zge k).map encN).toArray) w):=by rw[←b2.out];exact Zu6
    have gp:=Zpv (n:=160) (l:=Zfp.flatten) (by kernel_rfl) ag.out.order;go_wp2_with fail;refine Zh8 (n:=160) (Zfp.flatten.map encN) ai.out.symm rfl rfl (by kernel_rfl) (by kernel_rfl) (by kernel_rfl) gp ?_;clear gp;go_wp2_with fail
    go_loopw [61] (fun i wr=>∃k:Nat,k≤10∧i=.int .i64 k∧Arr wr gv 320 encU (roundsTo M V2 k)∧Chg [gv] w5 wr) (fun i _=>10-(intOf i).toNat)
    case atStart=>exact⟨0,Zf _,rfl,N,Chg.refl _ _⟩
    case round =>
     clear N;obtain⟨k,hk,rfl,ha,ho⟩:=hrel;obtain⟨VR,s2⟩:∃VR,Hid (roundsTo M V2 k=VR):=⟨_,rfl⟩;have g7:Ws 16 VR:=s2.out▸cd.roundsTo M k;rw[s2.out]at ha;have bv:=ho.size
     by_cases R:k<10
     ·have su:(k:Int)<10:=by omega
      obtain⟨RV,sq⟩:∃RV:Value,Hid (RV=.agg ((Zth k).map encN).toArray):=⟨_,rfl⟩;have bx:∀w,(Instr.index 323 OA (.int .i64 (k:Nat))).run prog w=.ok RV w:=by rw[sq.out];exact c5.out k R
      obtain⟨O,hO⟩:∃O,Hid (Zth k=O):=⟨_,rfl⟩;have a5:O.length=16:=hO.out▸Zw7 R;have ak:=ha.lt;obtain⟨ws,cg⟩:∃ws,Hid (ws=wr):=⟨_,rfl⟩;rw[hO.out]at sq;go_wp2_with (refine Zcl (n:=16) rfl rfl rfl sq.out (by kernel_rfl) (by simp[a5]) (Blk.new _ _ _) rfl (by simp;intro x _;rfl) ?_);intro w7 be ah;have gi:Arr w7 wr.heap.size 322 encN O:=be;have a7:Below wr.heap.size wr w7:=Zab (Zac _ _) (Zar _ (Za _)) ah (by intro k e;injection e;omega);have hr:Arr w7 gv 320 encU VR:=Blk.kept ha a7;have g8:Chg [gv] w5 w7:=ho.trans (Chg.of_below a7 (Za _));obtain⟨go,bj⟩:∃go,Hid (wr.heap.size=go):=⟨_,rfl⟩;rw[bj.out]at gi ak⊢;have Z:go<w7.heap.size:=gi.lt;have h7:go≠gv:=by omega
      have b3:Arr w7 gm 320 encU M:=Blk.chg br g8 (by simpa using h5);have h6:gm<w7.heap.size:=b3.lt;have ar:Tabs w7.cell?:=ag.out.chg g8 (by omega);have d2:=g8.size;clear be ah a7 ha ho bx;have gp:=Zpv (n:=32) (l:=((List.range 8).map Zge).flatten) (by kernel_rfl) ar.lanes;go_wp2_with (refine Zbe (n:=32) (v:=LA) ((((List.range 8).map Zge).flatten).map encN) b2.out.symm rfl rfl rfl (by kernel_rfl) (by kernel_rfl) (by kernel_rfl) gp ?_);clear gp
      go_loopw [65] (fun i wr=>∃j:Nat,j≤8∧i=.int .i64 j∧Arr wr gv 320 encU (lanesTo M k VR j)∧Chg [gv] w7 wr) (fun i _=>8-(intOf i).toNat)
      case atStart=>exact⟨0,Zf _,rfl,hr,Chg.refl _ _⟩
      case round =>
       clear hr ar;obtain⟨j,hj,rfl,g3,gw⟩:=hrel;obtain⟨VJ,g4⟩:∃VJ,Hid (lanesTo M k VR j=VJ):=⟨_,rfl⟩;have sz:Ws 16 VJ:=g4.out▸g7.lanesTo M k j;rw[g4.out]at g3;have cx:=gw.size
       by_cases u:j<8
       ·have bw:(j:Int)<8:=by omega
        obtain⟨la,aj,ci⟩:∃la,Hid ((lane j).1=la)∧la<16:=⟨_,rfl,(Zov u).1⟩;obtain⟨lb,ba,cm⟩:∃lb,Hid ((lane j).2.1=lb)∧lb<16:=⟨_,rfl,(Zov u).2.1⟩;obtain⟨lc,sf,ck⟩:∃lc,Hid ((lane j).2.2.1=lc)∧lc<16:=⟨_,rfl,(Zov u).2.2.1⟩;obtain⟨ld,b5,cf⟩:∃ld,Hid ((lane j).2.2.2=ld)∧ld<16:=⟨_,rfl,(Zov u).2.2.2⟩;have aq:Zge j=[la,lb,lc,ld]:=by unfold Zge;rw[aj.out,ba.out,sf.out,b5.out]
        obtain⟨LR,al⟩:∃LR:Value,Hid (LR=.agg #[encN la,encN lb,encN lc,encN ld]):=⟨_,rfl⟩
        have c0:∀w,(Instr.index 325 LA (.int .i64 (j:Nat))).run prog w=.ok LR w:=by
         rw[al.out];have:=c7.out j u;rw[aq]at this;exact this
        have au:=g3.lt;go_wp2_with (refine Zcl (n:=4) rfl rfl rfl al.out (by kernel_rfl) rfl (Blk.new _ _ _) rfl rfl ?_);intro xa g5 b4;have sw:Below wr.heap.size wr xa:=Zab (Zac _ _) (Zar _ (Za _)) b4 (by intro k e;injection e;omega);have hw:Arr xa gv 320 encU VJ:=Blk.kept g3 sw;have F:Chg [gv] w7 xa:=gw.trans (Chg.of_below sw (Za _));obtain⟨gl,bq⟩:∃gl,Hid (wr.heap.size=gl):=⟨_,rfl⟩;rw[bq.out]at g5 au⊢;have l0:=g5.cell 0;have l1:=g5.cell 1;have l2:=g5.cell 2;have l3:=g5.cell 3;simp[encN]at l0 l1 l2 l3;clear b4 sw g3 gw c0 aq g5;have s6:=ord_lt (i:=2*j) R (by omega);have s9:=ord_lt (i:=2*j+1) R (by omega)
        have d:lanesTo M k VR (j+1)=mix VJ la lb lc ld (at0 M (ord k (2*j))) (at0 M (ord k (2*j+1))):=by
         rw[Zj7,g4.out];unfold Zr0;rw[aj.out,ba.out,sf.out,b5.out]
        have ab:∀i,i<16→xa.cell? ⟨go,i,none⟩=some (.int .i64 (ord k i:Nat)):=fun i hi=>by
         have h1:=Arr.at gi i (by rw[a5];exact hi);rw[Zg0 (by rw[a5];exact hi)]at h1;have h2:=(F.cell go i Z (by simpa using h7)).trans h1;rw[h2,←hO.out];rfl
        have sn:∀i,i<16→xa.cell? ⟨gm,i,none⟩=some (.int .u32 (at0 M i:Nat)):=fun i hi =>
         (F.cell gm i h6 (by simpa using h5)).trans (Zct b3 (by rw[bm.1];exact hi))
        have gq:=ab (2*j) (by omega);have gd:=ab (2*j+1) (by omega);have gc:=sn _ s6;have gf:=sn _ s9;clear ab sn;generalize ord k (2*j)=p at d s6 gq gc;generalize ord k (2*j+1)=q at d s9 gd gf;generalize at0 M p=x at gc d;generalize at0 M q=y at gf d;obtain⟨j2,so,cj⟩:∃j2,Hid (2*j=j2)∧j2<16:=⟨_,rfl,by omega⟩;obtain⟨j3,af,cr⟩:∃j3,Hid (2*j+1=j3)∧j3<16:=⟨_,rfl,by omega⟩;rw[so.out]at gq;rw[af.out]at gd;have f4:IntKind.i64.wrap (2*(j:Int))=j2:=by have:=so.out;rw[Zkx _ (by omega) (by omega)];omega
        have f5:IntKind.i64.wrap ((j2:Int)+1)=j3:=by have:=so.out;have:=af.out;rw[Zkx _ (by omega) (by omega)];omega
        have i1:(p:Int)<16:=by omega
        have i2:(q:Int)<16:=by omega
        have i3:(la:Int)<16:=by omega
        have i4:(lb:Int)<16:=by omega
        have i5:(lc:Int)<16:=by omega
        have i6:(ld:Int)<16:=by omega
        have i7:(j2:Int)<16:=by omega
        have i8:(j3:Int)<16:=by omega
        have gb:go<xa.heap.size:=Nat.lt_of_lt_of_le Z F.size;have gn:gm<xa.heap.size:=Nat.lt_of_lt_of_le h6 F.size;have a0:=Zb d;clear d;go_wp2_with fail;refine Zr [11] (.q 0 (.q 1 (.q 2 (.q 3 (.q 4 (.q 5 (.q 6 (.q 7 (.q 8 (.q 9 (.q 10 (.qc 11 .nil)))))))))))) fun x0 a=>?_
        repeat((first|refine pq (h:=⟨_,fun w' a=>by(have h1:=Zaa a _ _ l0;have h2:=Zaa a _ _ l1;have h3:=Zaa a _ _ l2;have h4:=Zaa a _ _ l3;go_simp;exact rfl),?_⟩)|refine Zq ?_);simp only[sx])
        refine Zai ?_;have hw:=Blk.kept hw a;have gq:=Zaa a _ _ gq;have gd:=Zaa a _ _ gd;have gc:=Zaa a _ _ gc;have gf:=Zaa a _ _ gf;have F:=F.trans (Chg.of_below a (Za _));have gb:=Nat.lt_of_lt_of_le gb a.size;have gn:=Nat.lt_of_lt_of_le gn a.size;clear a l0 l1 l2 l3;obtain⟨v0,rfl⟩:∃v,v=VJ:=⟨_,rfl⟩;have Z:=gb;have h6:=gn;have h7:go∉[gv]:=by simpa using h7
        have sg:gm∉[gv]:=by simpa using h5
        have a1:=hw;have s4:=sz;have sk:Chg [gv] x0 x0:=Chg.refl _ _;clear hw sz;go_wp2_with fail;obtain⟨v1,h9⟩:∃v,Hid (mixA v0 la lb x=v):=⟨_,rfl⟩;have Y:Ws 16 v1:=h9.out▸s4.mixA la lb x;have ep:=Zct a1 (i:=la) (by have:=s4.1;omega);have eq:=Zct a1 (i:=lb) (by have:=s4.1;omega);have ec:=(sk.cell _ _ Z h7).trans gq;have em:=(sk.cell _ _ h6 sg).trans gc;have e1:=Zsy (x:=at0 v0 la) (y:=at0 v0 lb) (z:=x);have e1b:=Zpo (x:=at0 v0 la) (y:=at0 v0 lb) (z:=x);refine Zr [15] (.q 0 (.q 1 (.q 2 (.q 3 (.q 4 (.q 5 (.q 6 (.q 7 (.q 8 (.q 9 (.q 10 (.q 11 (.q 12 (.q 13 (.q 14 (.l 15 .nil)))))))))))))))) fun W a=>?_
        repeat((first|refine pq (h:=⟨_,fun w' a=>by(have h1:=Zaa a _ _ ep;have h2:=Zaa a _ _ eq;have h3:=Zaa a _ _ ec;have h4:=Zaa a _ _ em;go_simp;exact rfl),?_⟩)|refine Zq ?_);simp only[sx])
        refine Zc fun K f=>?_
        try simp only[sy]
        refine Zbt (xs:=v0) (add3 (at0 v0 la) (at0 v0 lb) x) rfl rfl rfl (by kernel_rfl) rfl rfl (a1.kept a) (by have:=s4.1;omega) ?_;intro x1 gu E;rw[show v0.set la (add3 (at0 v0 la) (at0 v0 lb) x)=v1 from h9.out]at gu;have c9:Chg [gv] x0 x1:=sk.trans ((Chg.of_below a (Za _)).trans (.of_grown E (by simp)));clear E a e1 e1b ep eq ec em;refine f.out _ _ ?_;clear f K
        try simp only[sx]
        refine Zai ?_;go_wp2_with fail;obtain⟨v2,a9⟩:∃v,Hid (mixD v1 ld la 16=v):=⟨_,rfl⟩;have gy:Ws 16 v2:=a9.out▸Y.mixD ld la 16;have ep:=Zct gu (i:=ld) (by have:=Y.1;omega);have eq:=Zct gu (i:=la) (by have:=Y.1;omega);have e1:=Zf5 (Y.2 ld) (Y.2 la);refine Zr [10] (.q 0 (.q 1 (.q 2 (.q 3 (.q 4 (.q 5 (.q 6 (.q 7 (.l 8 (.q 9 (.l 10 .nil))))))))))) fun W a=>?_
        repeat((first|refine pq (h:=⟨_,fun w' a=>by(have h1:=Zaa a _ _ ep;have h2:=Zaa a _ _ eq;go_simp;exact rfl),?_⟩)|refine Zq ?_);simp only[sx])
        refine Zd fun K f=>?_
        try simp only[sy]
        go_simp;refine(Zuo (Zcv (at0 v1 ld) (at0 v1 la)) _ (Zcu (Y.2 _) (Y.2 _))).mono ?_;rintro e W2 ⟨rfl,rfl⟩;refine f.out _ _ (a) fun a=>?_
        clear f K
        try simp only[sx]
        repeat(refine Zq ?_;simp only[sx])
        refine Zc fun K f=>?_
        try simp only[sy]
        refine Zbt (xs:=v1) (rot (Zcv (at0 v1 ld) (at0 v1 la)) 16) rfl rfl rfl (by kernel_rfl) rfl rfl (gu.kept a) (by have:=Y.1;omega) ?_;intro x2 X E;rw[show v1.set ld (rot (Zcv (at0 v1 ld) (at0 v1 la)) 16)=v2 from a9.out]at X;have H:Chg [gv] x0 x2:=c9.trans ((Chg.of_below a (Za _)).trans (.of_grown E (by simp)));clear E a e1 ep eq;refine f.out _ _ ?_;clear f K
        try simp only[sx]
        refine Zai ?_;go_wp2_with fail;obtain⟨v3,sl⟩:∃v,Hid (mixC v2 lc ld=v):=⟨_,rfl⟩;have h0:Ws 16 v3:=sl.out▸gy.mixC lc ld;have ep:=Zct X (i:=lc) (by have:=gy.1;omega);have eq:=Zct X (i:=ld) (by have:=gy.1;omega);have e1:=Zsz (x:=at0 v2 lc) (y:=at0 v2 ld);refine Zr [8] (.q 0 (.q 1 (.q 2 (.q 3 (.q 4 (.q 5 (.q 6 (.q 7 (.l 8 .nil))))))))) fun W a=>?_
        repeat((first|refine pq (h:=⟨_,fun w' a=>by(have h1:=Zaa a _ _ ep;have h2:=Zaa a _ _ eq;go_simp;exact rfl),?_⟩)|refine Zq ?_);simp only[sx])
        refine Zc fun K f=>?_
        try simp only[sy]
        refine Zbt (xs:=v2) (add2 (at0 v2 lc) (at0 v2 ld)) rfl rfl rfl (by kernel_rfl) rfl rfl (X.kept a) (by have:=gy.1;omega) ?_;intro x3 B E;rw[show v2.set lc (add2 (at0 v2 lc) (at0 v2 ld))=v3 from sl.out]at B;have gr:Chg [gv] x0 x3:=H.trans ((Chg.of_below a (Za _)).trans (.of_grown E (by simp)));clear E a e1 ep eq;refine f.out _ _ ?_;clear f K
        try simp only[sx]
        refine Zai ?_;go_wp2_with fail;obtain⟨v4,sm⟩:∃v,Hid (mixD v3 lb lc 12=v):=⟨_,rfl⟩;have s5:Ws 16 v4:=sm.out▸h0.mixD lb lc 12;have ep:=Zct B (i:=lb) (by have:=h0.1;omega);have eq:=Zct B (i:=lc) (by have:=h0.1;omega);have e1:=Zf5 (h0.2 lb) (h0.2 lc);refine Zr [10] (.q 0 (.q 1 (.q 2 (.q 3 (.q 4 (.q 5 (.q 6 (.q 7 (.l 8 (.q 9 (.l 10 .nil))))))))))) fun W a=>?_
        repeat((first|refine pq (h:=⟨_,fun w' a=>by(have h1:=Zaa a _ _ ep;have h2:=Zaa a _ _ eq;go_simp;exact rfl),?_⟩)|refine Zq ?_);simp only[sx])
        refine Zd fun K f=>?_
        try simp only[sy]
        go_simp;refine(Zup (Zcv (at0 v3 lb) (at0 v3 lc)) _ (Zcu (h0.2 _) (h0.2 _))).mono ?_;rintro e W2 ⟨rfl,rfl⟩;refine f.out _ _ (a) fun a=>?_
        clear f K
        try simp only[sx]
        repeat(refine Zq ?_;simp only[sx])
        refine Zc fun K f=>?_
        try simp only[sy]
        refine Zbt (xs:=v3) (rot (Zcv (at0 v3 lb) (at0 v3 lc)) 12) rfl rfl rfl (by kernel_rfl) rfl rfl (B.kept a) (by have:=h0.1;omega) ?_;intro x4 I E;rw[show v3.set lb (rot (Zcv (at0 v3 lb) (at0 v3 lc)) 12)=v4 from sm.out]at I;have hf:Chg [gv] x0 x4:=gr.trans ((Chg.of_below a (Za _)).trans (.of_grown E (by simp)));clear E a e1 ep eq;refine f.out _ _ ?_;clear f K
        try simp only[sx]
        refine Zai ?_;go_wp2_with fail;obtain⟨v5,a6⟩:∃v,Hid (mixA v4 la lb y=v):=⟨_,rfl⟩;have J:Ws 16 v5:=a6.out▸s5.mixA la lb y;have ep:=Zct I (i:=la) (by have:=s5.1;omega);have eq:=Zct I (i:=lb) (by have:=s5.1;omega);have ec:=(hf.cell _ _ Z h7).trans gd;have em:=(hf.cell _ _ h6 sg).trans gf;have e1:=Zsy (x:=at0 v4 la) (y:=at0 v4 lb) (z:=y);have e1b:=Zpo (x:=at0 v4 la) (y:=at0 v4 lb) (z:=y);refine Zr [16] (.q 0 (.q 1 (.q 2 (.q 3 (.q 4 (.q 5 (.q 6 (.q 7 (.q 8 (.q 9 (.q 10 (.q 11 (.q 12 (.q 13 (.q 14 (.q 15 (.l 16 .nil))))))))))))))))) fun W a=>?_
        repeat((first|refine pq (h:=⟨_,fun w' a=>by(have h1:=Zaa a _ _ ep;have h2:=Zaa a _ _ eq;have h3:=Zaa a _ _ ec;have h4:=Zaa a _ _ em;go_simp;exact rfl),?_⟩)|refine Zq ?_);simp only[sx])
        refine Zc fun K f=>?_
        try simp only[sy]
        refine Zbt (xs:=v4) (add3 (at0 v4 la) (at0 v4 lb) y) rfl rfl rfl (by kernel_rfl) rfl rfl (I.kept a) (by have:=s5.1;omega) ?_;intro x5 N E;rw[show v4.set la (add3 (at0 v4 la) (at0 v4 lb) y)=v5 from a6.out]at N;have hh:Chg [gv] x0 x5:=hf.trans ((Chg.of_below a (Za _)).trans (.of_grown E (by simp)));clear E a e1 e1b ep eq ec em;refine f.out _ _ ?_;clear f K
        try simp only[sx]
        refine Zai ?_;go_wp2_with fail;obtain⟨v6,st⟩:∃v,Hid (mixD v5 ld la 8=v):=⟨_,rfl⟩;have s1:Ws 16 v6:=st.out▸J.mixD ld la 8;have ep:=Zct N (i:=ld) (by have:=J.1;omega);have eq:=Zct N (i:=la) (by have:=J.1;omega);have e1:=Zf5 (J.2 ld) (J.2 la);refine Zr [10] (.q 0 (.q 1 (.q 2 (.q 3 (.q 4 (.q 5 (.q 6 (.q 7 (.l 8 (.q 9 (.l 10 .nil))))))))))) fun W a=>?_
        repeat((first|refine pq (h:=⟨_,fun w' a=>by(have h1:=Zaa a _ _ ep;have h2:=Zaa a _ _ eq;go_simp;exact rfl),?_⟩)|refine Zq ?_);simp only[sx])
        refine Zd fun K f=>?_
        try simp only[sy]
        go_simp;refine(Zwv (Zcv (at0 v5 ld) (at0 v5 la)) _ (Zcu (J.2 _) (J.2 _))).mono ?_;rintro e W2 ⟨rfl,rfl⟩;refine f.out _ _ (a) fun a=>?_
        clear f K
        try simp only[sx]
        repeat(refine Zq ?_;simp only[sx])
        refine Zc fun K f=>?_
        try simp only[sy]
        refine Zbt (xs:=v5) (rot (Zcv (at0 v5 ld) (at0 v5 la)) 8) rfl rfl rfl (by kernel_rfl) rfl rfl (N.kept a) (by have:=J.1;omega) ?_;intro x6 gz E;rw[show v5.set ld (rot (Zcv (at0 v5 ld) (at0 v5 la)) 8)=v6 from st.out]at gz;have ce:Chg [gv] x0 x6:=hh.trans ((Chg.of_below a (Za _)).trans (.of_grown E (by simp)));clear E a e1 ep eq;refine f.out _ _ ?_;clear f K
        try simp only[sx]
        refine Zai ?_;go_wp2_with fail;obtain⟨v7,ss⟩:∃v,Hid (mixC v6 lc ld=v):=⟨_,rfl⟩;have U:Ws 16 v7:=ss.out▸s1.mixC lc ld;have ep:=Zct gz (i:=lc) (by have:=s1.1;omega);have eq:=Zct gz (i:=ld) (by have:=s1.1;omega);have e1:=Zsz (x:=at0 v6 lc) (y:=at0 v6 ld);refine Zr [8] (.q 0 (.q 1 (.q 2 (.q 3 (.q 4 (.q 5 (.q 6 (.q 7 (.l 8 .nil))))))))) fun W a=>?_
        repeat((first|refine pq (h:=⟨_,fun w' a=>by(have h1:=Zaa a _ _ ep;have h2:=Zaa a _ _ eq;go_simp;exact rfl),?_⟩)|refine Zq ?_);simp only[sx])
        refine Zc fun K f=>?_
        try simp only[sy]
        refine Zbt (xs:=v6) (add2 (at0 v6 lc) (at0 v6 ld)) rfl rfl rfl (by kernel_rfl) rfl rfl (gz.kept a) (by have:=s1.1;omega) ?_;intro x7 hr E;rw[show v6.set lc (add2 (at0 v6 lc) (at0 v6 ld))=v7 from ss.out]at hr;have g8:Chg [gv] x0 x7:=ce.trans ((Chg.of_below a (Za _)).trans (.of_grown E (by simp)));clear E a e1 ep eq;refine f.out _ _ ?_;clear f K
        try simp only[sx]
        refine Zai ?_;go_wp2_with fail;obtain⟨v8,a2⟩:∃v,Hid (mixD v7 lb lc 7=v):=⟨_,rfl⟩;have cu:Ws 16 v8:=a2.out▸U.mixD lb lc 7;have ep:=Zct hr (i:=lb) (by have:=U.1;omega);have eq:=Zct hr (i:=lc) (by have:=U.1;omega);have e1:=Zf5 (U.2 lb) (U.2 lc);refine Zr [10] (.q 0 (.q 1 (.q 2 (.q 3 (.q 4 (.q 5 (.q 6 (.q 7 (.l 8 (.q 9 (.l 10 .nil))))))))))) fun W a=>?_
        repeat((first|refine pq (h:=⟨_,fun w' a=>by(have h1:=Zaa a _ _ ep;have h2:=Zaa a _ _ eq;go_simp;exact rfl),?_⟩)|refine Zq ?_);simp only[sx])
        refine Zd fun K f=>?_
        try simp only[sy]
        go_simp;refine(Zww (Zcv (at0 v7 lb) (at0 v7 lc)) _ (Zcu (U.2 _) (U.2 _))).mono ?_;rintro e W2 ⟨rfl,rfl⟩;refine f.out _ _ (a) fun a=>?_
        clear f K
        try simp only[sx]
        repeat(refine Zq ?_;simp only[sx])
        refine Zc fun K f=>?_
        try simp only[sy]
        refine Zbt (xs:=v7) (rot (Zcv (at0 v7 lb) (at0 v7 lc)) 7) rfl rfl rfl (by kernel_rfl) rfl rfl (hr.kept a) (by have:=U.1;omega) ?_;intro x8 bb E;rw[show v7.set lb (rot (Zcv (at0 v7 lb) (at0 v7 lc)) 7)=v8 from a2.out]at bb;have bt:Chg [gv] x0 x8:=g8.trans ((Chg.of_below a (Za _)).trans (.of_grown E (by simp)));clear E a e1 ep eq;refine f.out _ _ ?_;clear f K
        try simp only[sx]
        refine Zai ?_;go_wp2_with fail
        have c4:mix v0 la lb lc ld x y=v8:=by
         unfold mix;rw[h9.out,a9.out,sl.out,sm.out,a6.out,st.out,ss.out,a2.out]
        go_roundw
        case rel=>exact⟨j+1,by omega,by go_num,by rw[a0.out,c4];exact bb,F.trans bt⟩
        case measure=>simp[intOf];omega
       ·have Q:j=8:=by omega
        rw[Q]at g4;rw[←g4.out]at g3;clear Q g4 sz;go_wp2;go_roundw
        case rel=>exact⟨k+1,by omega,by go_num,by rw[Zil,s2.out];exact g3,g8.trans gw⟩
        case measure=>simp[intOf];omega
     ·have hv:k=10:=by omega
      have HK:=Zb hv;clear hv;have su:¬(k:Int)<10:=by omega
      obtain⟨w9,b1⟩:∃w9,w9=wr:=⟨_,rfl⟩;rw[←b1]at ha ho bv⊢;clear b1;have sj:Arr w9 gs 306 encU s:=Blk.chg bi.out ho (by simpa using ht);have cp:=sj.lt;have b7:=ha.lt;have bh:Chg [gs] w w9:=(cc.out.trans ho).sub (fun g E=>.inr (by rw[show g=gv from by simpa using E];exact av));clear ho;go_wp2_with fail
      go_loopw [166] (fun i wr=>∃j:Nat,j≤8∧i=.int .i64 j∧Arr wr gs 306 encU (Zjj s VR j)∧Chg [gs] w9 wr) (fun i _=>8-(intOf i).toNat)
      case atStart=>exact⟨0,Zf _,rfl,by rw[Zuv S];exact sj,Chg.refl _ _⟩
      case round =>
       clear sj;obtain⟨j,hj,rfl,g9,si⟩:=hrel
       by_cases u:j<8
       ·have bw:(j:Int)<8:=by omega
        have cq:(j:Int)<16:=by omega
        have sr:∀i,i<16→wr.cell? ⟨gv,i,none⟩=some (.int .u32 (at0 VR i:Nat)):=fun i hi =>
         (si.cell gv i b7 (by simpa using Ne.symm ht)).trans (Zct ha (by rw[g7.1];exact hi))
        have c1:=sr j (by omega);have c2:=sr (j+8) (by omega);have c3:=Zct g9 (i:=j) (by rw[Zgr];exact u);rw[Zyu u]at c3;have hn:=Zuw s VR u;have x1:=Zf5 (g7.2 j) (g7.2 (j+8));have x2:=Zf5 (S.2 j) (Zcu (g7.2 j) (g7.2 (j+8)));rw[←Zyl]at x2;obtain⟨j8,Q,ch⟩:∃j8,Hid (j+8=j8)∧j8<16:=⟨_,rfl,by omega⟩;rw[Q.out]at c2 x1 x2;have f1:IntKind.i64.wrap ((j:Int)+8)=j8:=by have:=Q.out;rw[Zkx _ (by omega) (by omega)];omega
        have f2:(j8:Int)<16:=by omega
        have Hn:=Zb hn;have g0:=Zgr s VR j;generalize hP:Zjj s VR j=P at g9 Hn g0;generalize Zgx s VR j=z at x2 Hn;clear hn sr hP;go_wp2_with fail;refine Zt (fun w'=>True) (fun w'=>Below wr.heap.size wr w') [16] (.q 0 (.q 1 (.q 2 (.q 3 (.q 4 (.q 5 (.q 6 (.q 7 (.q 8 (.q 9 (.q 10 (.q 11 (.q 12 (.q 13 (.q 14 (.q 15 (.l 16 .nil))))))))))))))))) ?_ ?_
        ·exact⟨trivial,Zad _⟩
        intro W _ a
        repeat((first|refine pq (h:=⟨_,fun w' a=>by(have h1:=Zaa a _ _ c1;have h2:=Zaa a _ _ c2;have h3:=Zaa a _ _ c3;go_simp;exact rfl),?_⟩)|refine Zq ?_);simp only[sx])
        refine Zc fun K f=>?_
        try simp only[sy]
        refine Zbt (xs:=P) z rfl rfl rfl (by kernel_rfl) rfl rfl (Blk.kept g9 a) (by rw[g0];exact u) ?_;intro w10 s8 s7;rw[Hn.out]at s8;have hv:Chg [gs] w9 w10:=si.trans ((Chg.of_below a (Za _)).trans (.of_grown s7 (by simp)));clear s7;refine f.out _ _ ?_;clear f K
        try simp only[sx]
        refine Zai ?_;go_wp2_with fail;go_roundw
        case rel=>exact⟨j+1,by omega,by go_num,s8,hv⟩
        case measure=>simp[intOf];omega
       ·have Q:j=8:=by omega
        rw[Q,Zw4]at g9;clear Q
        have sc:∀l,Hid (Zhy s many l=V2)→(List.range 8).map (Zgx s VR)=Zf6 s b many l:=fun l hl=>by
         unfold Zf6;rw[hM.out,hl.out,←HK.out,s2.out]
        rw[sc _ gh]at g9;clear sc;go_wp2;go_end0;exact⟨rfl,g9,bh.trans si⟩
end Go.Proofs.YtbcpbnfojfiekaaGreatDoor
