/- A part of what the last text stands on. -/
import Derived.Sort.OwnSortedInts
import Derived.Test.YtinibgklgehdpaaGreatDoorK20
import Derived.Test.YtinibgklgehdpaaGreatDoorK21
namespace Go.Proofs.YtinibgklgehdpaaGreatDoor
open Go.ChangeShapes Go.WideShapes Go.ChangeAt Go.RowKit Qa Qb Qc
set_option linter.all false
set_option maxHeartbeats 20000000
set_option maxRecDepth 100000
variable{w w':World}{v:Value}{h:View}{g:Nat}
section
open Go.Shelf Go.Sort
attribute [local go_sem] Oper.semAt_some
namespace Fls
theorem sorted_in(Bs:Nat)(sv:Value)(zs:List Int)(hreach:zs.length*8≤140737488351232)(hlen:zs.length≤maxLen)(w:World)(hBs:Bs<w.heap.size)(hc:w.cell? ⟨Bs,0,none⟩=some sv)(hI:Ints w.heap.size w sv zs) :
 Calls Tryz.prog 147 #[.func (.func 178) #[] #[.pointer (some ⟨Bs,0,none⟩)]] w fun e W'=>∃v,e=.returned v∧W'.ownsRow w.heap.size 3 1 v zs.length ((zs.mergeSort (fun x y=>decide (x≤y))).map (Value.int .i64))∧Below w.heap.size w W':=by
 have hcol:=(callsIn_wide (n:=6)).1 (Ztj Fence.wide 6 trivial trivial trivial rfl (by omega) Bs sv zs hreach hlen w hBs hc hI)
 go_enter Tryz.func147,Tryz.ntmps147
 go_wp2_with fail
 refine hcol.mono ?_;rintro e W ⟨v,rfl,hrow,hnil,hb⟩
 rcases hrow.2 with ⟨rfl,hz⟩|⟨gb,cap,cur,rfl,hbase,hgb,r1,r2,r3,r4⟩
 ·have hss:zs=[]:=List.eq_nil_of_length_eq_zero hz;subst hss
  go_wp2_with fail
  refine(slices_Sort_int_none none 0 W).mono ?_;rintro e w' ⟨rfl,rfl⟩;go_wp2;go_ret;exact⟨_,rfl,by simpa using hrow,hb⟩
 ·have hH:Holds (Value.int .i64) W gb 0 zs.toArray:=holds_of_blockI hgb (by simpa using r4);have hgl:gb<W.heap.size:=(Array.getElem?_eq_some_iff.1 hgb).1;have hsz:zs.length<4611686018427387904:=by omega
  go_wp2_with fail
  refine(slices_Sort_int gb 0 cap zs W hH hgl hsz).mono ?_;rintro e w' ⟨rfl,nn,os,rfl⟩;go_wp2;go_ret;exact⟨_,rfl,ownsRow_sortedI (by simp) hbase hgb r1 r2 r3,hb.grown (grownBy_sortedI _) hb.size (fun j hj=>by cases hj;exact hbase)⟩
end Fls
end
namespace Fl
theorem Zrh{xs:List Int}(r:RSl 1 RI 8 h v xs):RIs h v xs:=by
 obtain⟨A,c,e,h1,h2,h3,h4,h5⟩:=r;refine⟨A,c,e,h1,h2,h3,h4,fun hp=>?_⟩;obtain⟨b,o,ea,hc⟩:=h5 hp;refine⟨b,o,ea,fun i hi=>?_⟩;obtain⟨cs,hl,hcell,hx⟩:=hc i hi;have hx:cs=[.int .i64 xs[i]]:=hx;have:=hcell 0 (by omega);rw[Nat.mul_one,Nat.add_zero,hx]at this;exact this
theorem Zgj(v:Value)(l:List Int)(x:Int)(w:World)(r:RIs w.cell? v l) :
 Calls Tryz.prog 146 #[v,.int .i64 x] w fun e w'=>e=.returned (.bool (decide (x∈l)))∧w'=w:=by
 obtain⟨A,c,rfl,h1,h2,h3,h4,h5⟩:=r
 by_cases hl:l=[]
 ·subst hl;refine(slices_Contains_int_empty A c x w).mono ?_;rintro e w' ⟨rfl,rfl⟩;exact⟨by simp,rfl⟩
 ·obtain⟨b,o,rfl,hc⟩:=h5 (by cases l with|nil=>exact absurd rfl hl|cons _ _=>simp);refine(slices_Contains_int b o l.length c l x w (Nat.le_refl _) (by omega) (fun j hj=>?_)).mono ?_
  ·have:=hc j hj;rw[this];simp[encI,hj]
  ·rintro e w' ⟨rfl,rfl⟩;refine⟨?_,rfl⟩;rw[List.take_length,List.contains_eq_mem]
theorem Zku{B:Nat}{xs:List Int}(h:OwnI w B v xs)(hg:w.grownBy w' (some g))(hne:∀k,v.ownBlock=some k→k≠g):OwnI w' B v xs :=
 ⟨h.own.kept hg (.inr fun e=>hne _ e rfl)⟩
theorem Zw0{B:Nat}{xs:List Int}(h:OwnI w B v xs)(hl:xs.length*8≤140737488355328):RIs (View.from w.cell? B) v xs:=by
 obtain⟨A,c,rfl,h1,h2,h3,h4,h5⟩:=h.reads (bs:=8) hl;refine⟨A,c,rfl,h1,h2,h3,h4,fun hp=>?_⟩;obtain⟨b,o,rfl,hc⟩:=h5 hp;refine⟨b,o,rfl,fun i hi=>?_⟩;have:=(h.own.lt b rfl).1;unfold View.from;rw[if_neg (by simp only;omega)];exact hc i hi
theorem elemVo:Elem Tryz.prog 62 3 1 8:=Znz (z:=.int .i64 0) Tryz.underlying62 (by kernel_rfl) rfl (by decide)
theorem count_any(i gf off:Nat)(n:Nd)(src:Int)(s:Slot)(vd:Value)(rogue:Int)(signs:List Sign)(o:Own)(w:World)(hl:Lim o w)(hi:i<5)(ho1:1≤off)(ho2:off+15≤61)(hG:SgAt o w gf rogue signs)(hN:NodeAt o w i 0 gf off n)(hT:Tabs (Zas o w))(rd:Zao (Zas o w) vd s.digest)(h5:n.voters.length≤4)(h4:n.out.length≤400) :
 Calls Tryz.prog 111 #[.pointer (some ⟨gf,0,none⟩),.pointer (some ⟨gf,off,none⟩),.int .i64 src,.agg #[.int .i64 s.author,.int .i64 s.round,vd]] w fun e w'=>e=.returned (.tuple #[])∧∃o',NFr i 0 gf off o w o' w'∧NodeAt o' w' i 0 gf off (count signs rogue n src s):=by
 obtain⟨dA,dc,rfl,hf1⟩:=id rd;clear hf1;obtain⟨QR,hQR⟩:∃q,Hid (count signs rogue n src s=q):=⟨_,rfl⟩;rw[hQR.out];have H4:=Lib.hid h4;have H5:=Lib.hid h5;clear h4 h5;have ho0:=hl.none w.heap.size (Nat.le_refl _)
 go_enter Tryz.func111,Tryz.ntmps111
 go_upto_region 1 with fail
 refine Zo fun W hk hsz hb=>?_
 have v1:=Zae hl hb;have l1:=Zam hl hb;have N1:=hN.below hl hb;have G1:=hG.below hl hb;have rd1:=rd.mono v1;have T1:=hT.mono v1;have F1:NFr i 0 gf off o w o W:=(NFr.refl hl).below hb;clear hN hG hT rd;obtain⟨hmk,⟨vtx,vba,vdi,vta,vda,vow,vmi,vvo,vtp,vou⟩,S1,R1⟩:=id N1;have s0:=S1.nd0;have s8:=S1.nd8;have s9:=S1.nd9;have row:=R1.ow;have rmi:=R1.mi;simp only at s8 s9;cases hown:n.own with
 |none =>
  have hr:QR=n:=by rw[←hQR.out];unfold Fl.count;rw[hown]
  have Nr:NodeAt o W i 0 gf off QR:=by rw[hr];exact N1
  rw[hown]at row;have row:vow=.pointer none:=row;subst row;clear hr;have Hown:=Lib.hid hown;clear hown;refine Zr [] (.q 0 (.q 1 (.q 2 (.q 3 (.q 4 (.q 5 (.q 6 (.q 7 (.q 8 (.q 9 (.q 10 (.q 11 (.q 12 (.q 13 (.q 14 (.q 15 (.q 16 (.q 17 (.q 18 (.q 19 (.q 20 (.q 21 (.q 22 (.q 23 (.q 24 (.q 25 (.q 26 (.q 27 (.q 28 (.q 29 (.q 30 (.q 31 (.q 32 (.l 33 (.q 34 (.q 35 .nil)))))))))))))))))))))))))))))))))))) fun W3 hS3=>?_
  repeat((first|refine pq (h:=⟨_,fun w' hS=>by(have h1:=Zaa hS _ _ s8;have h2:=Zaa hS _ _ s0;have h3:=Zaa hS _ _ s9;go_simp;exact rfl),?_⟩)|refine Zq ?_);simp only[sx])
  refine Zah ?_;have N3:=Nr.below l1 hS3;have F3:=F1.below hS3;go_wp2
  (try simp only[Exit.inBlock,Exit.then])
  refine bodyPost_ret (results_none rfl _ _ _) rfl ?_;exact⟨rfl,o,F3,N3⟩
 |some h =>
  rw[hown]at row;obtain⟨ob,ovb,ovp,hvow,c0,c1,c2,c3,rvb,rvp⟩:=row;have hvow:vow=.pointer (some ⟨ob,0,none⟩):=hvow;subst hvow;have g0:=hk.cell 0;have g1:=hk.cell 1;have g2:=hk.cell 2;simp at g0 g1 g2;have c0':=Zag _ _ _ _ c0;have c1':=Zag _ _ _ _ c1;obtain⟨Q1,hQ1⟩:∃q,Hid (decide (s.author≠n.me∨s.round≠h.round∨s.digest≠n.mine)=q):=⟨_,rfl⟩
  go_cut [44] (fun v w'=>v=.bool Q1∧Below W.heap.size W w')
  case first =>
   by_cases ha:s.author=n.me
   rotate_left
   ·have hab:(s.author != n.me)=true:=by simpa using ha
    have hq:Q1=true:=by rw[←hQ1.out];simp[ha]
    subst hq;clear ha;refine Zr [] (.q 0 (.q 1 (.q 2 (.q 3 (.q 4 (.q 5 (.q 6 (.q 7 (.q 8 (.q 9 (.q 10 (.q 11 (.q 12 (.q 13 (.q 14 (.q 15 (.q 16 (.q 17 (.q 18 (.q 19 (.q 20 (.q 21 (.q 22 (.q 23 (.q 24 (.q 25 (.q 26 (.q 27 (.q 28 (.q 29 (.q 30 (.q 31 (.q 32 (.l 33 (.q 34 (.q 35 .nil)))))))))))))))))))))))))))))))))))) fun W3 hS3=>?_
    repeat((first|refine pq (h:=⟨_,fun w' hS=>by(have h1:=Zaa hS _ _ s8;have h2:=Zaa hS _ _ s0;have h3:=Zaa hS _ _ s9;have hx:=hk.kept hS;have h4:=hx.cell 0;have h5:=hx.cell 1;have h6:=hx.cell 2;have h7:=Zaa hS _ _ c1';simp at h4 h5 h6;go_simp;exact rfl),?_⟩)|refine Zq ?_);simp only[sx])
    refine Zah ?_
    go_wp2_with fail
    go_meet;exact⟨rfl,hS3⟩
   have hab:(s.author != n.me)=false:=by simpa using ha
   by_cases hr:s.round=h.round
   rotate_left
   ·have hrb:(s.round != h.round)=true:=by simpa using hr
    have hq:Q1=true:=by rw[←hQ1.out];simp[hr]
    subst hq;clear ha hr;refine Zr [] (.q 0 (.q 1 (.q 2 (.q 3 (.q 4 (.q 5 (.q 6 (.q 7 (.q 8 (.q 9 (.q 10 (.q 11 (.q 12 (.q 13 (.q 14 (.q 15 (.q 16 (.q 17 (.q 18 (.q 19 (.q 20 (.q 21 (.q 22 (.q 23 (.q 24 (.q 25 (.q 26 (.q 27 (.q 28 (.q 29 (.q 30 (.q 31 (.q 32 (.l 33 (.q 34 (.q 35 .nil)))))))))))))))))))))))))))))))))))) fun W3 hS3=>?_
    repeat((first|refine pq (h:=⟨_,fun w' hS=>by(have h1:=Zaa hS _ _ s8;have h2:=Zaa hS _ _ s0;have h3:=Zaa hS _ _ s9;have hx:=hk.kept hS;have h4:=hx.cell 0;have h5:=hx.cell 1;have h6:=hx.cell 2;have h7:=Zaa hS _ _ c1';simp at h4 h5 h6;go_simp;exact rfl),?_⟩)|refine Zq ?_);simp only[sx])
    refine Zah ?_
    go_wp2_with fail
    go_meet;exact⟨rfl,hS3⟩
   have hrb:(s.round != h.round)=false:=by simpa using hr
   have hq:Q1= !(s.digest==n.mine):=by rw[←hQ1.out];rw[Bool.eq_iff_iff];simp[ha,hr]
   clear ha hr;refine Zr [] (.q 0 (.q 1 (.q 2 (.q 3 (.q 4 (.q 5 (.q 6 (.q 7 (.q 8 (.q 9 (.q 10 (.q 11 (.q 12 (.q 13 (.q 14 (.q 15 (.q 16 (.q 17 (.q 18 (.q 19 (.q 20 (.q 21 (.q 22 (.q 23 (.q 24 (.q 25 (.q 26 (.q 27 (.q 28 (.q 29 (.q 30 (.q 31 (.q 32 (.l 33 (.q 34 (.q 35 .nil)))))))))))))))))))))))))))))))))))) fun W3 hS3=>?_
   repeat((first|refine pq (h:=⟨_,fun w' hS=>by(have h1:=Zaa hS _ _ s8;have h2:=Zaa hS _ _ s0;have h3:=Zaa hS _ _ s9;have hx:=hk.kept hS;have h4:=hx.cell 0;have h5:=hx.cell 1;have h6:=hx.cell 2;have h7:=Zaa hS _ _ c1';simp at h4 h5 h6;go_simp;exact rfl),?_⟩)|refine Zq ?_);simp only[sx])
   refine Zd fun K hK=>?_
   try simp only[sy]
   go_simp;refine(Zb6 _ _ s.digest n.mine _ ((rd1.mono (Zag _ _)).mono (Zaa hS3)) ((rmi.mono (Zag _ _)).mono (Zaa hS3))).mono ?_;rintro e w4 ⟨rfl,rfl⟩;refine hK.out _ _ (hS3) fun hS=>?_
   clear hK K
   try simp only[sx]
   repeat(refine Zq ?_;simp only[sx])
   refine Zah ?_
   go_wp2_with fail
   go_meet;exact⟨by rw[hq],hS3⟩
  case rest =>
   obtain⟨rfl,hbc⟩:=hcut
   obtain⟨HST⟩:Nonempty (Hid (QR=if Q1 then n else if Zd5 n n.me h.round∨src∈n.voters∨signed signs rogue src s=false then n else if (n.voters++[src]).length<3 then {n with voters:=n.voters++[src] } else if (insert {n with voters:=n.voters++[src] } ⟨h,Zdh (n.voters++[src])⟩ true).2 then tell (insert {n with voters:=n.voters++[src] } ⟨h,Zdh (n.voters++[src])⟩ true).1 (prfM ⟨h,Zdh (n.voters++[src])⟩)else(insert {n with voters:=n.voters++[src] } ⟨h,Zdh (n.voters++[src])⟩ true).1)):=by
    refine⟨?_⟩;show _=_;rw[←hQR.out,←hQ1.out];unfold Fl.count;rw[hown];simp only[decide_eq_true_eq]
   have vc:=Zae l1 hbc;have lc:=Zam l1 hbc;have Nc:=N1.below l1 hbc;have Gc:=G1.below l1 hbc;have rdc:=rd1.mono vc;have Tc:=T1.mono vc;have hkc:=hk.kept hbc;have Fc:=F1.below hbc;have rvb:=rvb.mono RDig.mono vc;have rvp:=rvp.mono RDig.mono vc;have c0:=vc _ _ c0;have c1:=vc _ _ c1;have c2:=vc _ _ c2;have c3:=vc _ _ c3;clear hQ1 hQR N1 G1 rd1 T1 hk F1 S1 R1 s0 s8 s9 c0' c1' rmi g0 g1 g2;obtain⟨wc0,hwc0⟩:∃w':World,w'=wc:=⟨_,rfl⟩;subst hwc0;cases Q1
   rotate_left
   ·have hr:QR=n:=by rw[HST.out,if_pos rfl]
    have Nr:NodeAt o wc0 i 0 gf off QR:=by rw[hr];exact Nc
    clear hr;go_wp2
    (try simp only[Exit.inBlock,Exit.then])
    refine bodyPost_ret (results_none rfl _ _ _) rfl ?_;exact⟨rfl,o,Fc,Nr⟩
   obtain⟨QC,hQC⟩:∃q,Hid (Zd5 n n.me h.round=q):=⟨_,rfl⟩;obtain⟨QV,hQV⟩:∃q,Hid (decide (src∈n.voters)=q):=⟨_,rfl⟩;obtain⟨QG,hQG⟩:∃q,Hid (signed signs rogue src s=q):=⟨_,rfl⟩;obtain⟨QP,hQP⟩:∃q,Hid (n.voters++[src]=q):=⟨_,rfl⟩
   have HST:Hid (QR=if QC||(QV|| !QG)then n else if QP.length<3 then {n with voters:=QP } else if (insert {n with voters:=QP } ⟨h,Zdh QP⟩ true).2 then tell (insert {n with voters:=QP } ⟨h,Zdh QP⟩ true).1 (prfM ⟨h,Zdh QP⟩)else(insert {n with voters:=QP } ⟨h,Zdh QP⟩ true).1):=by
    show _=_;rw[HST.out,←hQC.out,←hQV.out,←hQG.out,←hQP.out];simp only[Bool.false_eq_true,if_false,Bool.or_eq_true,decide_eq_true_eq,Bool.not_eq_true']
   obtain⟨hm2,⟨ytx,yba,ydi,yta,yda,yow,ymi,yvo,ytp,you⟩,S2,R2⟩:=id Nc;clear c0 c1 c2 c3 rvb rvp;have row:=R2.ow;rw[hown]at row;obtain⟨ob2,ovb2,ovp2,hyow,c0,c1,c2,c3,rvb,rvp⟩:=row;have hyow:yow=.pointer (some ⟨ob2,0,none⟩):=hyow;subst hyow;have hvr:=Zrh (R2.vo.reads (bs:=8) RI.mono (by have:=H5.out;omega));have s0:=S2.nd0;have s8:=S2.nd8;have s10:=S2.nd10;simp only at s8 s10 hvr;obtain⟨vA,vcp,rfl,_⟩:=id hvr;have c1':=Zag _ _ _ _ c1
   go_upto_region 2 with fail
   go_cut [72] (fun v w'=>v=.bool (QC||(QV|| !QG))∧Below wc0.heap.size wc0 w')
   case first =>
    cases QC
    rotate_left
    ·refine Zr [] (.q 0 (.q 1 (.q 2 (.q 3 (.q 4 (.q 5 (.q 6 (.q 7 (.q 8 (.q 9 (.q 10 (.q 11 (.l 12 (.q 13 (.q 14 (.q 15 (.q 16 (.q 17 (.q 18 (.l 19 (.q 20 (.q 21 (.q 22 (.q 23 (.q 24 (.l 25 (.q 26 (.q 27 .nil)))))))))))))))))))))))))))) fun W3 hS3=>?_
     repeat((first|refine pq (h:=⟨_,fun w' hS=>by(have h1:=Zaa hS _ _ s8;have h2:=Zaa hS _ _ s0;have h3:=Zaa hS _ _ s10;have hx:=hkc.kept hS;have h4:=hx.cell 0;have h5:=hx.cell 1;have h6:=hx.cell 2;have h7:=Zaa hS _ _ c1';simp at h4 h5 h6;go_simp;exact rfl),?_⟩)|refine Zq ?_);simp only[sx])
     refine Zd fun K hK=>?_
     try simp only[sy]
     go_simp;refine(Zel i 0 gf off n n.me h.round o _ (Nc.below lc hS3)).mono ?_;rintro e w4 ⟨rfl,hb4⟩;rw[hQC.out];have hS4:=hS3.trans (hb4.mono hS3.size);refine hK.out _ _ (hS4) fun hS=>?_
     clear hK K
     try simp only[sx]
     repeat(refine Zq ?_;simp only[sx])
     refine Zah ?_
     go_wp2_with fail
     go_meet;exact⟨rfl,hS4⟩
    cases QV
    rotate_left
    ·refine Zr [] (.q 0 (.q 1 (.q 2 (.q 3 (.q 4 (.q 5 (.q 6 (.q 7 (.q 8 (.q 9 (.q 10 (.q 11 (.l 12 (.q 13 (.q 14 (.q 15 (.q 16 (.q 17 (.q 18 (.l 19 (.q 20 (.q 21 (.q 22 (.q 23 (.q 24 (.l 25 (.q 26 (.q 27 .nil)))))))))))))))))))))))))))) fun W3 hS3=>?_
     repeat((first|refine pq (h:=⟨_,fun w' hS=>by(have h1:=Zaa hS _ _ s8;have h2:=Zaa hS _ _ s0;have h3:=Zaa hS _ _ s10;have hx:=hkc.kept hS;have h4:=hx.cell 0;have h5:=hx.cell 1;have h6:=hx.cell 2;have h7:=Zaa hS _ _ c1';simp at h4 h5 h6;go_simp;exact rfl),?_⟩)|refine Zq ?_);simp only[sx])
     refine Zd fun K hK=>?_
     try simp only[sy]
     go_simp;refine(Zel i 0 gf off n n.me h.round o _ (Nc.below lc hS3)).mono ?_;rintro e w4 ⟨rfl,hb4⟩;rw[hQC.out];have hS4:=hS3.trans (hb4.mono hS3.size);refine hK.out _ _ (hS4) fun hS=>?_
     clear hK K
     try simp only[sx]
     repeat((first|refine pq (h:=⟨_,fun w' hS=>by(have h1:=Zaa hS _ _ s8;have h2:=Zaa hS _ _ s0;have h3:=Zaa hS _ _ s10;have hx:=hkc.kept hS;have h4:=hx.cell 0;have h5:=hx.cell 1;have h6:=hx.cell 2;have h7:=Zaa hS _ _ c1';simp at h4 h5 h6;go_simp;exact rfl),?_⟩)|refine Zq ?_);simp only[sx])
     refine Zd fun K hK=>?_
     try simp only[sy]
     go_simp;refine(Zgj _ n.voters src _ (hvr.mono (Zaa hS4))).mono ?_;rintro e w5 ⟨rfl,rfl⟩;rw[hQV.out];refine hK.out _ _ (hS4) fun hS=>?_
     clear hK K
     try simp only[sx]
     repeat(refine Zq ?_;simp only[sx])
     refine Zah ?_
     go_wp2_with fail
     go_meet;exact⟨rfl,hS4⟩
    refine Zr [] (.q 0 (.q 1 (.q 2 (.q 3 (.q 4 (.q 5 (.q 6 (.q 7 (.q 8 (.q 9 (.q 10 (.q 11 (.l 12 (.q 13 (.q 14 (.q 15 (.q 16 (.q 17 (.q 18 (.l 19 (.q 20 (.q 21 (.q 22 (.q 23 (.q 24 (.l 25 (.q 26 (.q 27 .nil)))))))))))))))))))))))))))) fun W3 hS3=>?_
    repeat((first|refine pq (h:=⟨_,fun w' hS=>by(have h1:=Zaa hS _ _ s8;have h2:=Zaa hS _ _ s0;have h3:=Zaa hS _ _ s10;have hx:=hkc.kept hS;have h4:=hx.cell 0;have h5:=hx.cell 1;have h6:=hx.cell 2;have h7:=Zaa hS _ _ c1';simp at h4 h5 h6;go_simp;exact rfl),?_⟩)|refine Zq ?_);simp only[sx])
    refine Zd fun K hK=>?_
    try simp only[sy]
    go_simp;refine(Zel i 0 gf off n n.me h.round o _ (Nc.below lc hS3)).mono ?_;rintro e w4 ⟨rfl,hb4⟩;rw[hQC.out];have hS4:=hS3.trans (hb4.mono hS3.size);refine hK.out _ _ (hS4) fun hS=>?_
    clear hK K
    try simp only[sx]
    repeat((first|refine pq (h:=⟨_,fun w' hS=>by(have h1:=Zaa hS _ _ s8;have h2:=Zaa hS _ _ s0;have h3:=Zaa hS _ _ s10;have hx:=hkc.kept hS;have h4:=hx.cell 0;have h5:=hx.cell 1;have h6:=hx.cell 2;have h7:=Zaa hS _ _ c1';simp at h4 h5 h6;go_simp;exact rfl),?_⟩)|refine Zq ?_);simp only[sx])
    refine Zd fun K hK=>?_
    try simp only[sy]
    go_simp;refine(Zgj _ n.voters src _ (hvr.mono (Zaa hS4))).mono ?_;rintro e w5 ⟨rfl,rfl⟩;rw[hQV.out];refine hK.out _ _ (hS4) fun hS=>?_
    clear hK K
    try simp only[sx]
    repeat((first|refine pq (h:=⟨_,fun w' hS=>by(have h1:=Zaa hS _ _ s8;have h2:=Zaa hS _ _ s0;have h3:=Zaa hS _ _ s10;have hx:=hkc.kept hS;have h4:=hx.cell 0;have h5:=hx.cell 1;have h6:=hx.cell 2;have h7:=Zaa hS _ _ c1';simp at h4 h5 h6;go_simp;exact rfl),?_⟩)|refine Zq ?_);simp only[sx])
    refine Zd fun K hK=>?_
    try simp only[sy]
    go_simp;refine(Zk4 gf rogue signs src s _ o _ (Gc.below lc hS4) ((rdc.mono (Zae lc hS4)).mono (Zag _ _))).mono ?_;rintro e w6 ⟨rfl,hb6⟩;rw[hQG.out];have hS6:=hS4.trans (hb6.mono hS4.size);refine hK.out _ _ (hS6) fun hS=>?_
    clear hK K
    try simp only[sx]
    repeat(refine Zq ?_;simp only[sx])
    refine Zah ?_
    go_wp2_with fail
    go_meet;exact⟨rfl,hS6⟩
   case rest =>
    obtain⟨rfl,hbd⟩:=hcut;obtain⟨wd,hwd⟩:∃w':World,w'=wc:=⟨_,rfl⟩;subst hwd;have ve:=Zae lc hbd;have ld:=Zam lc hbd;have N5:=Nc.below lc hbd;have T5:=Tc.mono ve;have F5:=Fc.below hbd;clear Nc Gc rdc Tc hkc Fc S2 R2 s0 s8 s10 hvr c0 c1 c2 c3 rvb rvp c1' vc hm2;obtain⟨QB,hQB⟩:∃q,Hid ((QC||(QV|| !QG))=q):=⟨_,rfl⟩;rw[hQB.out]at HST⊢;cases QB
    rotate_left
    ·have hr:QR=n:=by rw[HST.out,if_pos rfl]
     have Nr:NodeAt o wd i 0 gf off QR:=by rw[hr];exact N5
     clear hr;go_wp2
     (try simp only[Exit.inBlock,Exit.then])
     refine bodyPost_ret (results_none rfl _ _ _) rfl ?_;exact⟨rfl,o,F5,Nr⟩
    have HST:Hid (QR=if QP.length<3 then {n with voters:=QP } else if (insert {n with voters:=QP } ⟨h,Zdh QP⟩ true).2 then tell (insert {n with voters:=QP } ⟨h,Zdh QP⟩ true).1 (prfM ⟨h,Zdh QP⟩)else(insert {n with voters:=QP } ⟨h,Zdh QP⟩ true).1):=by
     show _=_;rw[HST.out,if_neg (by decide)]
    have hvl:=H5.out;obtain⟨hm5,⟨ztx,zba,zdi,zta,zda,zow,zmi,zvo,ztp,zou⟩,S5,R5⟩:=id N5;obtain⟨vA5,vc5,hzvo⟩:=R5.vo.form;have hzvo:zvo=.slice vA5 n.voters.length vc5:=hzvo;subst hzvo;have s10:=S5.nd10;simp only at s10
    go_wp2_with (at_builtin;go_loud (refine Zcu (n:=140737488355328) RI.mono src [.int .i64 src] elemVo _ _ rfl rfl rfl R5.vo F5.fr.lim (by simp;omega) rfl rfl rfl rfl (show RI _ _ _ from rfl) (Nat.le_refl _) (show(n.voters.length+1)*8≤140737488355328 by omega) (show n.voters.length+1≤140737488355328 by omega) ?_))
    intro v' w6 o6 r6 f6;rw[hQP.out]at r6
    have S6:=S5.fr f6 hm5 (by simp<;>omega)
    have m6:=Zb5 S5.lt f6 hm5 (by simp<;>omega)
    have R6:=R5.vo' f6 r6;have F6:=F5.step hm5 f6 (fun t ht=>.inl (by rw[ht])) (by omega);have T6:=T5.mono f6.view;obtain⟨A6,c6,hv6⟩:=r6.form;subst hv6
    go_wp2_with (refine Sec.store S6 (i:=10) [.slice A6 QP.length c6] (show 10+1≤15 by decide) rfl rfl rfl rfl (by kernel_rfl) rfl rfl ?_)
    intro w7 S7 hg7 h7;have f7:=Zaq F6.fr.lim hg7 m6;have R7:=R6.fr f7 (fun k e=>by injection e;omega);have F7:=F6.store m6 hg7 h7 (show 10+1≤15 by decide);have T7:=T6.mono f7.view;have l7:=F7.fr.lim;have N7:NodeAt o6 w7 i 0 gf off {n with voters:=QP }:=⟨m6,_,S7.putVo,R7⟩;clear S5 R5 S6 R6 S7 R7 s10 N5 F5 F6 T5 T6 hm5 r6;obtain⟨hm8,⟨qtx,qba,qdi,qta,qda,qow,qmi,qvo,qtp,qou⟩,S8,R8⟩:=id N7;obtain⟨vA8,vc8,hqvo⟩:=R8.vo.form;have hqvo:qvo=.slice vA8 QP.length vc8:=hqvo;subst hqvo;have s10:=S8.nd10;have s8:=S8.nd8;simp only at s10 s8
    by_cases h3:QP.length<3
    ·have h3':(QP.length:Int)<3:=by omega
     have Nr:NodeAt o6 w7 i 0 gf off QR:=by rw[HST.out,if_pos h3];exact N7
     go_wp2
     (try simp only[Exit.inBlock,Exit.then])
     refine bodyPost_ret (results_none rfl _ _ _) rfl ?_;exact⟨rfl,o6,F7,Nr⟩
    have h3':¬(QP.length:Int)<3:=by omega
    have HST:Hid (QR=if (insert {n with voters:=QP } ⟨h,Zdh QP⟩ true).2 then tell (insert {n with voters:=QP } ⟨h,Zdh QP⟩ true).1 (prfM ⟨h,Zdh QP⟩)else(insert {n with voters:=QP } ⟨h,Zdh QP⟩ true).1):=by
     show _=_;rw[HST.out,if_neg h3]
    obtain⟨QS,hQS⟩:∃q,Hid (Zdh QP=q):=⟨_,rfl⟩;rw[hQS.out]at HST;have hql:QP.length≤5:=by rw[←hQP.out];simp;omega
    have Hqs:Hid (QS.length=QP.length):=by show _=_;rw[←hQS.out];unfold Zdh;rw[List.length_mergeSort]
    have hvr8:=Zrh (R8.vo.reads (bs:=8) RI.mono (by simp only;omega))
    have hInts:∀w',Below w7.heap.size w7 w'→Fls.Ints w'.heap.size w' (.slice vA8 QP.length vc8) QP:=fun w' hb=>by
     obtain⟨A',c',e,_,_,_,_,h5⟩:=hvr8.mono (Zaa hb);obtain⟨b,o',rfl,hc⟩:=h5 (by simp only;omega);refine .inr ⟨b,o',c',e,World.block_lt_of_cell? w' _ (hc 0 (by simp only;omega)),fun j hj=>?_⟩;have:=hc j hj;rw[this];simp[encI,hj]
    have row:=R8.ow;simp only at row;rw[hown]at row;obtain⟨ob2,ovb2,ovp2,hyow,c0,c1,c2,c3,rvb,rvp⟩:=row;have hyow:qow=.pointer (some ⟨ob2,0,none⟩):=hyow;subst hyow;obtain⟨bA,bc,rfl,hfb⟩:=id rvb;obtain⟨pA,pc,rfl,hfp⟩:=id rvp;have e0:=Zag _ _ _ _ c0;have e1:=Zag _ _ _ _ c1;have e2:=Zag _ _ _ _ c2;have e3:=Zag _ _ _ _ c3;clear hfb hfp hvr8 c0 c1 c2 c3
    go_upto_region 5 with fail
    go_cut [8] (fun p w'=>∃gb vA vc,p=.pointer (some ⟨gb,0,none⟩)∧Blk w' gb 64 #[.int .i64 h.author,.int .i64 h.round,.slice bA h.batches.length bc,.slice pA h.parents.length pc,.slice vA QS.length vc]∧Below w7.heap.size w7 w'∧w7.heap.size≤gb∧OwnI w' w7.heap.size (.slice vA QS.length vc) QS)
    case first =>
     refine Zr [14] (.q 0 (.q 1 (.q 2 (.q 3 (.q 4 (.q 5 (.q 6 (.q 7 (.q 8 (.q 9 (.alt 10 (.alt 11 (.q 12 (.l 13 (.l 14 .nil))) 13 (.l 11 (.q 12 (.l 14 .nil)))) 13 (.l 10 (.l 11 (.q 12 (.l 14 .nil))))))))))))))) fun W3 hS3=>?_
     repeat((first|refine pq (h:=⟨_,fun w' hS=>by(have h1:=Zaa hS _ _ s8;have h3:=Zaa hS _ _ s10;have d0:=Zaa hS _ _ e0;have d1:=Zaa hS _ _ e1;have d2:=Zaa hS _ _ e2;have d3:=Zaa hS _ _ e3;go_simp;exact rfl),?_⟩)|refine Zq ?_);simp only[sx])
     refine Zcl ?_ ?_
     ·refine Zd fun K hK=>?_
      try simp only[sy]
      go_simp;refine((callsIn_wide (n:=6)).1 (Fls.values_in Fence.wide 6 trivial rfl vA8 QP.length vc8 _)).mono ?_;rintro e w5 ⟨rfl,hw5⟩;have hv5:Blk w5 W3.heap.size 62 #[.slice vA8 QP.length vc8]:=by rw[hw5];exact Blk.new _ _ _
      have hb5:Below W3.heap.size W3 w5:=by rw[hw5];exact Zac _ _
      clear hw5;have hS5:=hS3.trans (hb5.mono hS3.size);refine hK.out _ _ (hS5) fun hS=>?_
      clear hK K
      try simp only[sx]
      repeat(refine Zq ?_;simp only[sx])
      refine Zcl ?_ ?_
      ·refine Zd fun K hK=>?_
       try simp only[sy]
       go_simp;refine(Fls.sorted_in W3.heap.size (.slice vA8 QP.length vc8) QP (by omega) (by unfold maxLen;omega) w5 hv5.lt (hv5.cell 0) (hInts w5 hS5)).mono ?_;rintro e w6 ⟨v6,rfl,hrow,hb6⟩;have o6i:OwnI w6 w5.heap.size v6 QS:=⟨by rw[←hQS.out];unfold Zdh;rw[List.length_mergeSort];exact hrow⟩;have hS6:=hS5.trans (hb6.mono hS5.size);obtain⟨A6',c6',rfl⟩:=o6i.form;clear hrow;refine hK.out _ _ (hS6) fun hS=>?_
       clear hK K
       try simp only[sx]
       repeat(refine Zq ?_;simp only[sx])
       have hz6:=hb6.size;have hz5:=hb5.size;have hz3:=hS3.size;refine Zd fun K hK=>?_
       try simp only[sy]
       go_simp;have hnA:=Blk.new w6 64 #[.int .i64 0,.int .i64 0,.slice none 0 0,.slice none 0 0,.slice none 0 0];have hbA:=Zac w6 (.cells #[.int .i64 0,.int .i64 0,.slice none 0 0,.slice none 0 0,.slice none 0 0] 64);have hzA:w6.heap.size<(w6.alloc (.cells #[.int .i64 0,.int .i64 0,.slice none 0 0,.slice none 0 0,.slice none 0 0] 64)).heap.size:=by simp
       have hSA:=hS6.trans (hbA.mono hS6.size);obtain⟨wA,hwA⟩:∃wA,wA=w6.alloc (.cells #[.int .i64 0,.int .i64 0,.slice none 0 0,.slice none 0 0,.slice none 0 0] 64):=⟨_,rfl⟩;rw[←hwA]at hnA hbA hzA hSA⊢;clear hwA;have hlt6:=o6i.own.lt;have o6i:=o6i.kept hbA;refine hK.out _ _ (hSA) fun hS=>?_
       clear hK K
       try simp only[sx]
       repeat(refine Zq ?_;simp only[sx])
       refine Zd fun K hK=>?_
       try simp only[sy]
       refine Zh 5 hnA ?_;intro w9 hB9 hg9;have hS9:Below w7.heap.size w7 w9:=Zab hSA hSA.size hg9 (by intro k e;injection e;omega);have o9i:OwnI w9 w7.heap.size _ QS:=(Zku o6i hg9 (fun k hk e=>by have:=hlt6 k hk;omega)).base (by omega);refine hK.out _ _ (hS9) fun hS=>?_
       clear hK K
       try simp only[sx]
       repeat(refine Zq ?_;simp only[sx])
       refine Zah ?_
       go_wp2_with fail
       go_meet;exact⟨_,A6',c6',rfl,hB9,hS9,by omega,o9i⟩
      ·have hz5:=hb5.size;have hz3:=hS3.size;refine Zd fun K hK=>?_
       try simp only[sy]
       go_simp;have hnA:=Blk.new w5 64 #[.int .i64 0,.int .i64 0,.slice none 0 0,.slice none 0 0,.slice none 0 0];have hbA:=Zac w5 (.cells #[.int .i64 0,.int .i64 0,.slice none 0 0,.slice none 0 0,.slice none 0 0] 64);have hzA:w5.heap.size<(w5.alloc (.cells #[.int .i64 0,.int .i64 0,.slice none 0 0,.slice none 0 0,.slice none 0 0] 64)).heap.size:=by simp
       have hSA:=hS5.trans (hbA.mono hS5.size);obtain⟨wA,hwA⟩:∃wA,wA=w5.alloc (.cells #[.int .i64 0,.int .i64 0,.slice none 0 0,.slice none 0 0,.slice none 0 0] 64):=⟨_,rfl⟩;rw[←hwA]at hnA hbA hzA hSA⊢;clear hwA;refine hK.out _ _ (hSA) fun hS=>?_
       clear hK K
       try simp only[sx]
       repeat(refine Zq ?_;simp only[sx])
       have hv5:=hv5.kept hbA;refine Zd fun K hK=>?_
       try simp only[sy]
       go_simp;refine(Fls.sorted_in W3.heap.size (.slice vA8 QP.length vc8) QP (by omega) (by unfold maxLen;omega) wA hv5.lt (hv5.cell 0) (hInts wA hSA)).mono ?_;rintro e w6 ⟨v6,rfl,hrow,hb6⟩;have o6i:OwnI w6 wA.heap.size v6 QS:=⟨by rw[←hQS.out];unfold Zdh;rw[List.length_mergeSort];exact hrow⟩;have hS6:=hSA.trans (hb6.mono hSA.size);obtain⟨A6',c6',rfl⟩:=o6i.form;clear hrow;refine hK.out _ _ (hS6) fun hS=>?_
       clear hK K
       try simp only[sx]
       repeat(refine Zq ?_;simp only[sx])
       have hnA:=hnA.kept hb6;refine Zd fun K hK=>?_
       try simp only[sy]
       refine Zh 5 hnA ?_;intro w9 hB9 hg9;have hS9:Below w7.heap.size w7 w9:=Zab hS6 hS6.size hg9 (by intro k e;injection e;omega);have o9i:OwnI w9 w7.heap.size _ QS:=(Zku o6i hg9 (fun k hk e=>by have:=o6i.own.lt k hk;omega)).base (by omega);refine hK.out _ _ (hS9) fun hS=>?_
       clear hK K
       try simp only[sx]
       repeat(refine Zq ?_;simp only[sx])
       refine Zah ?_
       go_wp2_with fail
       go_meet;exact⟨_,A6',c6',rfl,hB9,hS9,by omega,o9i⟩
     ·have hz3:=hS3.size;refine Zd fun K hK=>?_
      try simp only[sy]
      go_simp;have hnA:=Blk.new W3 64 #[.int .i64 0,.int .i64 0,.slice none 0 0,.slice none 0 0,.slice none 0 0];have hbA:=Zac W3 (.cells #[.int .i64 0,.int .i64 0,.slice none 0 0,.slice none 0 0,.slice none 0 0] 64);have hzA:W3.heap.size<(W3.alloc (.cells #[.int .i64 0,.int .i64 0,.slice none 0 0,.slice none 0 0,.slice none 0 0] 64)).heap.size:=by simp
      have hSA:=hS3.trans (hbA.mono hS3.size);obtain⟨wA,hwA⟩:∃wA,wA=W3.alloc (.cells #[.int .i64 0,.int .i64 0,.slice none 0 0,.slice none 0 0,.slice none 0 0] 64):=⟨_,rfl⟩;rw[←hwA]at hnA hbA hzA hSA⊢;clear hwA;refine hK.out _ _ (hSA) fun hS=>?_
      clear hK K
      try simp only[sx]
      repeat(refine Zq ?_;simp only[sx])
      refine Zd fun K hK=>?_
      try simp only[sy]
      go_simp;refine((callsIn_wide (n:=6)).1 (Fls.values_in Fence.wide 6 trivial rfl vA8 QP.length vc8 _)).mono ?_;rintro e w5 ⟨rfl,hw5⟩;have hv5:Blk w5 wA.heap.size 62 #[.slice vA8 QP.length vc8]:=by rw[hw5];exact Blk.new _ _ _
      have hb5:Below wA.heap.size wA w5:=by rw[hw5];exact Zac _ _
      clear hw5;have hS5:=hSA.trans (hb5.mono hSA.size);refine hK.out _ _ (hS5) fun hS=>?_
      clear hK K
      try simp only[sx]
      repeat(refine Zq ?_;simp only[sx])
      have hz5:=hb5.size;have hnA:=hnA.kept hb5;refine Zd fun K hK=>?_
      try simp only[sy]
      go_simp;refine(Fls.sorted_in wA.heap.size (.slice vA8 QP.length vc8) QP (by omega) (by unfold maxLen;omega) w5 hv5.lt (hv5.cell 0) (hInts w5 hS5)).mono ?_;rintro e w6 ⟨v6,rfl,hrow,hb6⟩;have o6i:OwnI w6 w5.heap.size v6 QS:=⟨by rw[←hQS.out];unfold Zdh;rw[List.length_mergeSort];exact hrow⟩;have hS6:=hS5.trans (hb6.mono hS5.size);obtain⟨A6',c6',rfl⟩:=o6i.form;clear hrow;refine hK.out _ _ (hS6) fun hS=>?_
      clear hK K
      try simp only[sx]
      repeat(refine Zq ?_;simp only[sx])
      have hnA:=hnA.kept hb6;refine Zd fun K hK=>?_
      try simp only[sy]
      refine Zh 5 hnA ?_;intro w9 hB9 hg9;have hS9:Below w7.heap.size w7 w9:=Zab hS6 hS6.size hg9 (by intro k e;injection e;omega);have o9i:OwnI w9 w7.heap.size _ QS:=(Zku o6i hg9 (fun k hk e=>by have:=o6i.own.lt k hk;omega)).base (by omega);refine hK.out _ _ (hS9) fun hS=>?_
      clear hK K
      try simp only[sx]
      repeat(refine Zq ?_;simp only[sx])
      refine Zah ?_
      go_wp2_with fail
      go_meet;exact⟨_,A6',c6',rfl,hB9,hS9,by omega,o9i⟩
    case rest =>
     obtain⟨gb,vA,vc,rfl,hB9,hb9,hgb,o9i⟩:=hcut;obtain⟨w9,hw9⟩:∃w':World,w'=wc:=⟨_,rfl⟩;subst hw9;have v9:=Zae l7 hb9;have l9:=Zam l7 hb9;have N9:=N7.below l7 hb9;have T9:=T7.mono v9;have F9:=F7.below hb9;have rvb:=rvb.mono RDig.mono v9;have rvp:=rvp.mono RDig.mono v9;have rvv:RIs (Zas o6 w9) (.slice vA QS.length vc) QS:=(Zw0 o9i (by have:=Hqs.out;omega)).mono (Zby l7);have hgbn:o6 gb=none:=l7.none gb hgb;have b0:=hB9.cell 0;have b1:=hB9.cell 1;have b2:=hB9.cell 2;have b3:=hB9.cell 3;have b4:=hB9.cell 4;simp at b0 b1 b2 b3 b4;obtain⟨QI,hQI⟩:∃q,Hid (insert {n with voters:=QP } ⟨h,QS⟩ true=q):=⟨_,rfl⟩
     have hout:QI.1.out=n.out:=by
      rw[←hQI.out];unfold Fl.insert;split
      ·rfl
      ·rw[if_pos rfl]
       split<;>rfl
     have Hout:=Lib.hid hout;clear hout o9i N7 T7 F7 s8 s10 e0 e1 e2 e3 S8 R8 hInts v9 hm8;rw[hQI.out]at HST
     go_wp2_with fail
     refine(Zi2 i 0 gf off {n with voters:=QP } ⟨h,QS⟩ true _ _ _ o6 _ l9 hi N9 T9 rvb rvp rvv).mono ?_;rintro e w10 ⟨rfl,o10,F910,N10⟩;rw[hQI.out]at N10⊢;have F10:=F9.trans F910;have hB10:=Za3 hB9 F910.fr hgbn;have rvb:=rvb.mono RDig.mono F910.fr.view;have rvp:=rvp.mono RDig.mono F910.fr.view;have rvv:=rvv.mono F910.fr.view;have l10:=F910.fr.lim;have b0:=hB10.cell 0;have b1:=hB10.cell 1;have b2:=hB10.cell 2;have b3:=hB10.cell 3;have b4:=hB10.cell 4;simp at b0 b1 b2 b3 b4;obtain⟨QN,QK⟩:=QI;cases QK
     ·have hr:QR=QN:=HST.out;have Nr:NodeAt o10 w10 i 0 gf off QR:=by rw[hr];exact N10
      clear hr;go_wp2;go_end0;exact⟨rfl,o10,F10,Nr⟩
     ·have hr:QR=tell QN (prfM ⟨h,QS⟩):=HST.out
      go_wp2_with fail
      refine(Zhv i 0 gf off QN (prfM ⟨h,QS⟩) _ _ _ _ _ _ _ o10 _ l10 hi N10 (Znm rvb rvp rvv) (fun s hs=>by cases hs) (by have:=Hout.out;rw[this];exact H4.out)).mono ?_;rintro e w11 ⟨rfl,o11,F11,N11⟩;have F12:=F10.trans F11;rw[←hr]at N11;clear hr;go_wp2;go_end0;exact⟨rfl,o11,F12,N11⟩
end Fl
end Go.Proofs.YtinibgklgehdpaaGreatDoor
