/- A part of what the last text stands on. -/
import Derived.Test.YtbcpbnfojfiekaaGreatDoorK26
import Derived.Test.YtbcpbnfojfiekaaGreatDoorK29
namespace Go.Proofs.YtbcpbnfojfiekaaGreatDoor
open Go.ChangeShapes Go.WideShapes Go.ChangeAt Go.RowKit Go.Proofs.Tryz Qa Qb Qc
set_option linter.all false
set_option maxHeartbeats 20000000
set_option maxRecDepth 100000
variable{w w':World}{v:Value}{h:View}{g:Nat}
namespace Fl
theorem Ztc{xs:List Int}(r:RSl 1 RI 8 h v xs):RIs h v xs:=by
 obtain⟨A,c,e,f,m,k,g,j⟩:=r;refine⟨A,c,e,f,m,k,g,fun hp=>?_⟩;obtain⟨b,o,ea,l⟩:=j hp;refine⟨b,o,ea,fun i hi=>?_⟩;obtain⟨cs,n,a,d⟩:=l i hi;have d:cs=[.int .i64 xs[i]]:=d;have:=a 0 (by omega);rw[Nat.mul_one,Nat.add_zero,d]at this;exact this
theorem Zgw(v:Value)(l:List Int)(x:Int)(w:World)(r:RIs w.cell? v l) :
 Calls prog 141 #[v,.int .i64 x] w fun e w'=>e=.returned (.bool (decide (x∈l)))∧w'=w:=by
 obtain⟨A,c,rfl,i,n,m,k,f⟩:=r
 by_cases d:l=[]
 ·subst d;refine(slices_Contains_int_empty A c x w).mono ?_;rintro e w' ⟨rfl,rfl⟩;exact⟨by simp,rfl⟩
 ·obtain⟨b,o,rfl,g⟩:=f (by cases l with|nil=>exact absurd rfl d|cons _ _=>simp);refine(slices_Contains_int b o l.length c l x w (Za _) (by omega) (fun j a=>?_)).mono ?_
  ·have:=g j a;rw[this];simp[encI,a]
  ·rintro e w' ⟨rfl,rfl⟩;refine⟨?_,rfl⟩;rw[List.take_length,List.contains_eq_mem]
theorem Zln{B:Nat}{xs:List Int}(h:OwnI w B v xs)(b:w.grownBy w' (some g))(a:∀k,v.ownBlock=some k→k≠g):OwnI w' B v xs :=
 ⟨h.own.kept b (.inr fun e=>a _ e rfl)⟩
theorem Zzs{B:Nat}{xs:List Int}(h:OwnI w B v xs)(g:xs.length*8≤140737488355328):RIs (View.from w.cell? B) v xs:=by
 obtain⟨A,c,rfl,a,k,f,d,e⟩:=h.reads (bs:=8) g;refine⟨A,c,rfl,a,k,f,d,fun hp=>?_⟩;obtain⟨b,o,rfl,j⟩:=e hp;refine⟨b,o,rfl,fun i hi=>?_⟩;have:=(h.own.lt b rfl).1;unfold View.from;rw[if_neg (by(try simp only);omega)];exact j i hi
theorem elemVo:Elem prog 77 3 1 8:=Zo4 (z:=.int .i64 0) underlying77 (by kernel_rfl) rfl (by decide)
theorem count_any(i gf off:Nat)(n:Nd)(src:Int)(s:Slot)(vd:Value)(rogue:Int)(signs:List Sign)(o:Own)(w:World)(hl:Lim o w)(hi:i<5)(s7:1≤off)(sa:off+15≤61)(hG:SgAt o w gf rogue signs)(hN:NodeAt o w i 0 gf off n)(hT:Tabs (Zas o w))(rd:Zan (Zas o w) vd s.digest)(C:n.voters.length≤4)(G:n.out.length≤400) :
 Calls prog 96 #[.pointer (some ⟨gf,0,none⟩),.pointer (some ⟨gf,off,none⟩),.int .i64 src,.agg #[.int .i64 s.author,.int .i64 s.round,vd]] w fun e w'=>e=.returned (.tuple #[])∧∃o',NFr i 0 gf off o w o' w'∧NodeAt o' w' i 0 gf off (count signs rogue n src s):=by
 obtain⟨dA,dc,rfl,s1⟩:=id rd;clear s1;obtain⟨QR,hp⟩:∃q,Hid (count signs rogue n src s=q):=⟨_,rfl⟩;rw[hp.out];have H4:=Zb G;have H5:=Zb C;clear G C;have sb:=hl.none w.heap.size (Za _);go_enter func96,ntmps96;go_upto_region 1 with fail;refine Zo fun W S si hb=>?_
 have v1:=Zaf hl hb;have l1:=Zam hl hb;have N1:=hN.below hl hb;have G1:=hG.below hl hb;have rd1:=rd.mono v1;have T1:=hT.mono v1;have F1:NFr i 0 gf off o w o W:=(NFr.refl hl).below hb;clear hN hG hT rd;obtain⟨sf,⟨vtx,vba,vdi,vta,vda,vow,vmi,vvo,vtp,vou⟩,S1,R1⟩:=id N1;have s0:=S1.nd0;have s8:=S1.nd8;have s9:=S1.nd9;have row:=R1.ow;have rmi:=R1.mi;simp only at s8 s9;cases hown:n.own with
 |none =>
  have D:QR=n:=by rw[←hp.out];unfold Fl.count;rw[hown]
  have Nr:NodeAt o W i 0 gf off QR:=by rw[D];exact N1
  rw[hown]at row;have row:vow=.pointer none:=row;subst row;clear D;have s6:=Zb hown;clear hown;refine Zr [] (.q 0 (.q 1 (.q 2 (.q 3 (.q 4 (.q 5 (.q 6 (.q 7 (.q 8 (.q 9 (.q 10 (.q 11 (.q 12 (.q 13 (.q 14 (.q 15 (.q 16 (.q 17 (.q 18 (.q 19 (.q 20 (.q 21 (.q 22 (.q 23 (.q 24 (.q 25 (.q 26 (.q 27 (.q 28 (.q 29 (.q 30 (.q 31 (.q 32 (.l 33 (.q 34 (.q 35 .nil)))))))))))))))))))))))))))))))))))) fun W3 c=>?_
  repeat((first|refine pq (h:=⟨_,fun w' a=>by(have h1:=Zaa a _ _ s8;have h2:=Zaa a _ _ s0;have U:=Zaa a _ _ s9;go_simp;exact rfl),?_⟩)|refine Zq ?_);simp only[sx])
  refine Zai ?_;have N3:=Nr.below l1 c;have F3:=F1.below c;go_wp2
  (try simp only[Exit.inBlock,Exit.then])
  refine bodyPost_ret (results_none rfl _ _ _) rfl ?_;exact⟨rfl,o,F3,N3⟩
 |some h =>
  rw[hown]at row;obtain⟨ob,ovb,ovp,h0,c0,c1,c2,c3,rvb,rvp⟩:=row;have h0:vow=.pointer (some ⟨ob,0,none⟩):=h0;subst h0;have g0:=S.cell 0;have g1:=S.cell 1;have g2:=S.cell 2;simp at g0 g1 g2;have c0':=Zah _ _ _ _ c0;have c1':=Zah _ _ _ _ c1;obtain⟨Q1,h8⟩:∃q,Hid (decide (s.author≠n.me∨s.round≠h.round∨s.digest≠n.mine)=q):=⟨_,rfl⟩
  go_cut [44] (fun v w'=>v=.bool Q1∧Below W.heap.size W w')
  case first =>
   by_cases ha:s.author=n.me
   rotate_left
   ·have gs:(s.author != n.me)=true:=by simpa using ha
    have hq:Q1=true:=by rw[←h8.out];simp[ha]
    subst hq;clear ha;refine Zr [] (.q 0 (.q 1 (.q 2 (.q 3 (.q 4 (.q 5 (.q 6 (.q 7 (.q 8 (.q 9 (.q 10 (.q 11 (.q 12 (.q 13 (.q 14 (.q 15 (.q 16 (.q 17 (.q 18 (.q 19 (.q 20 (.q 21 (.q 22 (.q 23 (.q 24 (.q 25 (.q 26 (.q 27 (.q 28 (.q 29 (.q 30 (.q 31 (.q 32 (.l 33 (.q 34 (.q 35 .nil)))))))))))))))))))))))))))))))))))) fun W3 c=>?_
    repeat((first|refine pq (h:=⟨_,fun w' a=>by(have h1:=Zaa a _ _ s8;have h2:=Zaa a _ _ s0;have U:=Zaa a _ _ s9;have f:=S.kept a;have G:=f.cell 0;have C:=f.cell 1;have O:=f.cell 2;have h7:=Zaa a _ _ c1';simp at G C O;go_simp;exact rfl),?_⟩)|refine Zq ?_);simp only[sx])
    refine Zai ?_;go_wp2_with fail;go_meet;exact⟨rfl,c⟩
   have gs:(s.author != n.me)=false:=by simpa using ha
   by_cases D:s.round=h.round
   rotate_left
   ·have gr:(s.round != h.round)=true:=by simpa using D
    have hq:Q1=true:=by rw[←h8.out];simp[D]
    subst hq;clear ha D;refine Zr [] (.q 0 (.q 1 (.q 2 (.q 3 (.q 4 (.q 5 (.q 6 (.q 7 (.q 8 (.q 9 (.q 10 (.q 11 (.q 12 (.q 13 (.q 14 (.q 15 (.q 16 (.q 17 (.q 18 (.q 19 (.q 20 (.q 21 (.q 22 (.q 23 (.q 24 (.q 25 (.q 26 (.q 27 (.q 28 (.q 29 (.q 30 (.q 31 (.q 32 (.l 33 (.q 34 (.q 35 .nil)))))))))))))))))))))))))))))))))))) fun W3 c=>?_
    repeat((first|refine pq (h:=⟨_,fun w' a=>by(have h1:=Zaa a _ _ s8;have h2:=Zaa a _ _ s0;have U:=Zaa a _ _ s9;have f:=S.kept a;have G:=f.cell 0;have C:=f.cell 1;have O:=f.cell 2;have h7:=Zaa a _ _ c1';simp at G C O;go_simp;exact rfl),?_⟩)|refine Zq ?_);simp only[sx])
    refine Zai ?_;go_wp2_with fail;go_meet;exact⟨rfl,c⟩
   have gr:(s.round != h.round)=false:=by simpa using D
   have hq:Q1= !(s.digest==n.mine):=by rw[←h8.out];rw[Bool.eq_iff_iff];simp[ha,D]
   clear ha D;refine Zr [] (.q 0 (.q 1 (.q 2 (.q 3 (.q 4 (.q 5 (.q 6 (.q 7 (.q 8 (.q 9 (.q 10 (.q 11 (.q 12 (.q 13 (.q 14 (.q 15 (.q 16 (.q 17 (.q 18 (.q 19 (.q 20 (.q 21 (.q 22 (.q 23 (.q 24 (.q 25 (.q 26 (.q 27 (.q 28 (.q 29 (.q 30 (.q 31 (.q 32 (.l 33 (.q 34 (.q 35 .nil)))))))))))))))))))))))))))))))))))) fun W3 c=>?_
   repeat((first|refine pq (h:=⟨_,fun w' a=>by(have h1:=Zaa a _ _ s8;have h2:=Zaa a _ _ s0;have U:=Zaa a _ _ s9;have f:=S.kept a;have G:=f.cell 0;have C:=f.cell 1;have O:=f.cell 2;have h7:=Zaa a _ _ c1';simp at G C O;go_simp;exact rfl),?_⟩)|refine Zq ?_);simp only[sx])
   refine Zd fun K d=>?_
   try simp only[sy]
   go_simp;refine(Zb7 _ _ s.digest n.mine _ ((rd1.mono (Zah _ _)).mono (Zaa c)) ((rmi.mono (Zah _ _)).mono (Zaa c))).mono ?_;rintro e w4 ⟨rfl,rfl⟩;refine d.out _ _ (c) fun a=>?_
   clear d K
   try simp only[sx]
   repeat(refine Zq ?_;simp only[sx])
   refine Zai ?_;go_wp2_with fail;go_meet;exact⟨by rw[hq],c⟩
  case rest =>
   obtain⟨rfl,T⟩:=hcut
   obtain⟨x⟩:Nonempty (Hid (QR=if Q1 then n else if Zd8 n n.me h.round∨src∈n.voters∨signed signs rogue src s=false then n else if (n.voters++[src]).length<3 then {n with voters:=n.voters++[src] } else if (insert {n with voters:=n.voters++[src] } ⟨h,Zdk (n.voters++[src])⟩ true).2 then tell (insert {n with voters:=n.voters++[src] } ⟨h,Zdk (n.voters++[src])⟩ true).1 (prfM ⟨h,Zdk (n.voters++[src])⟩)else(insert {n with voters:=n.voters++[src] } ⟨h,Zdk (n.voters++[src])⟩ true).1)):=by
    refine⟨?_⟩;show _=_;rw[←hp.out,←h8.out];unfold Fl.count;rw[hown];simp only[decide_eq_true_eq]
   have vc:=Zaf l1 T;have lc:=Zam l1 T;have Nc:=N1.below l1 T;have Gc:=G1.below l1 T;have rdc:=rd1.mono vc;have Tc:=T1.mono vc;have P:=S.kept T;have Fc:=F1.below T;have rvb:=rvb.mono Ze vc;have rvp:=rvp.mono Ze vc;have c0:=vc _ _ c0;have c1:=vc _ _ c1;have c2:=vc _ _ c2;have c3:=vc _ _ c3;clear h8 hp N1 G1 rd1 T1 S F1 S1 R1 s0 s8 s9 c0' c1' rmi g0 g1 g2;obtain⟨wc0,gg⟩:∃w':World,w'=wc:=⟨_,rfl⟩;subst gg;cases Q1
   rotate_left
   ·have D:QR=n:=by rw[x.out,if_pos rfl]
    have Nr:NodeAt o wc0 i 0 gf off QR:=by rw[D];exact Nc
    clear D;go_wp2
    (try simp only[Exit.inBlock,Exit.then])
    refine bodyPost_ret (results_none rfl _ _ _) rfl ?_;exact⟨rfl,o,Fc,Nr⟩
   obtain⟨QC,hv⟩:∃q,Hid (Zd8 n n.me h.round=q):=⟨_,rfl⟩;obtain⟨QV,g4⟩:∃q,Hid (decide (src∈n.voters)=q):=⟨_,rfl⟩;obtain⟨QG,gh⟩:∃q,Hid (signed signs rogue src s=q):=⟨_,rfl⟩;obtain⟨QP,g6⟩:∃q,Hid (n.voters++[src]=q):=⟨_,rfl⟩
   have x:Hid (QR=if QC||(QV|| !QG)then n else if QP.length<3 then {n with voters:=QP } else if (insert {n with voters:=QP } ⟨h,Zdk QP⟩ true).2 then tell (insert {n with voters:=QP } ⟨h,Zdk QP⟩ true).1 (prfM ⟨h,Zdk QP⟩)else(insert {n with voters:=QP } ⟨h,Zdk QP⟩ true).1):=by
    show _=_;rw[x.out,←hv.out,←g4.out,←gh.out,←g6.out];simp only[Bool.false_eq_true,if_false,Bool.or_eq_true,decide_eq_true_eq,Bool.not_eq_true']
   obtain⟨gq,⟨ytx,yba,ydi,yta,yda,yow,ymi,yvo,ytp,you⟩,S2,R2⟩:=id Nc;clear c0 c1 c2 c3 rvb rvp;have row:=R2.ow;rw[hown]at row;obtain⟨ob2,ovb2,ovp2,A,c0,c1,c2,c3,rvb,rvp⟩:=row;have A:yow=.pointer (some ⟨ob2,0,none⟩):=A;subst A;have Z:=Ztc (R2.vo.reads (bs:=8) RI.mono (by have:=H5.out;omega));have s0:=S2.nd0;have s8:=S2.nd8;have s10:=S2.nd10;simp only at s8 s10 Z;obtain⟨vA,vcp,rfl,_⟩:=id Z;have c1':=Zah _ _ _ _ c1;go_upto_region 2 with fail
   go_cut [72] (fun v w'=>v=.bool (QC||(QV|| !QG))∧Below wc0.heap.size wc0 w')
   case first =>
    cases QC
    rotate_left
    ·refine Zr [] (.q 0 (.q 1 (.q 2 (.q 3 (.q 4 (.q 5 (.q 6 (.q 7 (.q 8 (.q 9 (.q 10 (.q 11 (.l 12 (.q 13 (.q 14 (.q 15 (.q 16 (.q 17 (.q 18 (.l 19 (.q 20 (.q 21 (.q 22 (.q 23 (.q 24 (.l 25 (.q 26 (.q 27 .nil)))))))))))))))))))))))))))) fun W3 c=>?_
     repeat((first|refine pq (h:=⟨_,fun w' a=>by(have h1:=Zaa a _ _ s8;have h2:=Zaa a _ _ s0;have U:=Zaa a _ _ s10;have f:=P.kept a;have G:=f.cell 0;have C:=f.cell 1;have O:=f.cell 2;have h7:=Zaa a _ _ c1';simp at G C O;go_simp;exact rfl),?_⟩)|refine Zq ?_);simp only[sx])
     refine Zd fun K d=>?_
     try simp only[sy]
     go_simp;refine(Zeo i 0 gf off n n.me h.round o _ (Nc.below lc c)).mono ?_;rintro e w4 ⟨rfl,X⟩;rw[hv.out];have m:=c.trans (X.mono c.size);refine d.out _ _ (m) fun a=>?_
     clear d K
     try simp only[sx]
     repeat(refine Zq ?_;simp only[sx])
     refine Zai ?_;go_wp2_with fail;go_meet;exact⟨rfl,m⟩
    cases QV
    rotate_left
    ·refine Zr [] (.q 0 (.q 1 (.q 2 (.q 3 (.q 4 (.q 5 (.q 6 (.q 7 (.q 8 (.q 9 (.q 10 (.q 11 (.l 12 (.q 13 (.q 14 (.q 15 (.q 16 (.q 17 (.q 18 (.l 19 (.q 20 (.q 21 (.q 22 (.q 23 (.q 24 (.l 25 (.q 26 (.q 27 .nil)))))))))))))))))))))))))))) fun W3 c=>?_
     repeat((first|refine pq (h:=⟨_,fun w' a=>by(have h1:=Zaa a _ _ s8;have h2:=Zaa a _ _ s0;have U:=Zaa a _ _ s10;have f:=P.kept a;have G:=f.cell 0;have C:=f.cell 1;have O:=f.cell 2;have h7:=Zaa a _ _ c1';simp at G C O;go_simp;exact rfl),?_⟩)|refine Zq ?_);simp only[sx])
     refine Zd fun K d=>?_
     try simp only[sy]
     go_simp;refine(Zeo i 0 gf off n n.me h.round o _ (Nc.below lc c)).mono ?_;rintro e w4 ⟨rfl,X⟩;rw[hv.out];have m:=c.trans (X.mono c.size);refine d.out _ _ (m) fun a=>?_
     clear d K
     try simp only[sx]
     repeat((first|refine pq (h:=⟨_,fun w' a=>by(have h1:=Zaa a _ _ s8;have h2:=Zaa a _ _ s0;have U:=Zaa a _ _ s10;have f:=P.kept a;have G:=f.cell 0;have C:=f.cell 1;have O:=f.cell 2;have h7:=Zaa a _ _ c1';simp at G C O;go_simp;exact rfl),?_⟩)|refine Zq ?_);simp only[sx])
     refine Zd fun K d=>?_
     try simp only[sy]
     go_simp;refine(Zgw _ n.voters src _ (Z.mono (Zaa m))).mono ?_;rintro e w5 ⟨rfl,rfl⟩;rw[g4.out];refine d.out _ _ (m) fun a=>?_
     clear d K
     try simp only[sx]
     repeat(refine Zq ?_;simp only[sx])
     refine Zai ?_;go_wp2_with fail;go_meet;exact⟨rfl,m⟩
    refine Zr [] (.q 0 (.q 1 (.q 2 (.q 3 (.q 4 (.q 5 (.q 6 (.q 7 (.q 8 (.q 9 (.q 10 (.q 11 (.l 12 (.q 13 (.q 14 (.q 15 (.q 16 (.q 17 (.q 18 (.l 19 (.q 20 (.q 21 (.q 22 (.q 23 (.q 24 (.l 25 (.q 26 (.q 27 .nil)))))))))))))))))))))))))))) fun W3 c=>?_
    repeat((first|refine pq (h:=⟨_,fun w' a=>by(have h1:=Zaa a _ _ s8;have h2:=Zaa a _ _ s0;have U:=Zaa a _ _ s10;have f:=P.kept a;have G:=f.cell 0;have C:=f.cell 1;have O:=f.cell 2;have h7:=Zaa a _ _ c1';simp at G C O;go_simp;exact rfl),?_⟩)|refine Zq ?_);simp only[sx])
    refine Zd fun K d=>?_
    try simp only[sy]
    go_simp;refine(Zeo i 0 gf off n n.me h.round o _ (Nc.below lc c)).mono ?_;rintro e w4 ⟨rfl,X⟩;rw[hv.out];have m:=c.trans (X.mono c.size);refine d.out _ _ (m) fun a=>?_
    clear d K
    try simp only[sx]
    repeat((first|refine pq (h:=⟨_,fun w' a=>by(have h1:=Zaa a _ _ s8;have h2:=Zaa a _ _ s0;have U:=Zaa a _ _ s10;have f:=P.kept a;have G:=f.cell 0;have C:=f.cell 1;have O:=f.cell 2;have h7:=Zaa a _ _ c1';simp at G C O;go_simp;exact rfl),?_⟩)|refine Zq ?_);simp only[sx])
    refine Zd fun K d=>?_
    try simp only[sy]
    go_simp;refine(Zgw _ n.voters src _ (Z.mono (Zaa m))).mono ?_;rintro e w5 ⟨rfl,rfl⟩;rw[g4.out];refine d.out _ _ (m) fun a=>?_
    clear d K
    try simp only[sx]
    repeat((first|refine pq (h:=⟨_,fun w' a=>by(have h1:=Zaa a _ _ s8;have h2:=Zaa a _ _ s0;have U:=Zaa a _ _ s10;have f:=P.kept a;have G:=f.cell 0;have C:=f.cell 1;have O:=f.cell 2;have h7:=Zaa a _ _ c1';simp at G C O;go_simp;exact rfl),?_⟩)|refine Zq ?_);simp only[sx])
    refine Zd fun K d=>?_
    try simp only[sy]
    go_simp;refine(Zly gf rogue signs src s _ o _ (Gc.below lc m) ((rdc.mono (Zaf lc m)).mono (Zah _ _))).mono ?_;rintro e w6 ⟨rfl,E⟩;rw[gh.out];have u:=m.trans (E.mono m.size);refine d.out _ _ (u) fun a=>?_
    clear d K
    try simp only[sx]
    repeat(refine Zq ?_;simp only[sx])
    refine Zai ?_;go_wp2_with fail;go_meet;exact⟨rfl,u⟩
   case rest =>
    obtain⟨rfl,ho⟩:=hcut;obtain⟨wd,gx⟩:∃w':World,w'=wc:=⟨_,rfl⟩;subst gx;have ve:=Zaf lc ho;have ld:=Zam lc ho;have N5:=Nc.below lc ho;have T5:=Tc.mono ve;have F5:=Fc.below ho;clear Nc Gc rdc Tc P Fc S2 R2 s0 s8 s10 Z c0 c1 c2 c3 rvb rvp c1' vc gq;obtain⟨QB,gy⟩:∃q,Hid ((QC||(QV|| !QG))=q):=⟨_,rfl⟩;rw[gy.out]at x⊢;cases QB
    rotate_left
    ·have D:QR=n:=by rw[x.out,if_pos rfl]
     have Nr:NodeAt o wd i 0 gf off QR:=by rw[D];exact N5
     clear D;go_wp2
     (try simp only[Exit.inBlock,Exit.then])
     refine bodyPost_ret (results_none rfl _ _ _) rfl ?_;exact⟨rfl,o,F5,Nr⟩
    have x:Hid (QR=if QP.length<3 then {n with voters:=QP } else if (insert {n with voters:=QP } ⟨h,Zdk QP⟩ true).2 then tell (insert {n with voters:=QP } ⟨h,Zdk QP⟩ true).1 (prfM ⟨h,Zdk QP⟩)else(insert {n with voters:=QP } ⟨h,Zdk QP⟩ true).1):=by
     show _=_;rw[x.out,if_neg (by decide)]
    have sh:=H5.out;obtain⟨hm,⟨ztx,zba,zdi,zta,zda,zow,zmi,zvo,ztp,zou⟩,S5,R5⟩:=id N5;obtain⟨vA5,vc5,h9⟩:=R5.vo.form;have h9:zvo=.slice vA5 n.voters.length vc5:=h9;subst h9;have s10:=S5.nd10;simp only at s10;go_wp2_with (at_builtin;go_loud (refine Zcw (n:=140737488355328) RI.mono src [.int .i64 src] elemVo _ _ rfl rfl rfl R5.vo F5.fr.lim (by simp;omega) rfl rfl rfl rfl (show RI _ _ _ from rfl) (Za _) (show(n.voters.length+1)*8≤140737488355328 by omega) (show n.voters.length+1≤140737488355328 by omega) ?_));intro v' w6 o6 r6 f6;rw[g6.out]at r6
    have S6:=S5.fr f6 hm (by simp<;>omega)
    have m6:=Zb6 S5.lt f6 hm (by simp<;>omega)
    have R6:=R5.vo' f6 r6;have F6:=F5.step hm f6 (fun t ht=>.inl (by rw[ht])) (by omega);have T6:=T5.mono f6.view;obtain⟨A6,c6,gn⟩:=r6.form;subst gn;go_wp2_with (refine Sec.store S6 (i:=10) [.slice A6 QP.length c6] (show 10+1≤15 by decide) rfl rfl rfl rfl (by kernel_rfl) rfl rfl ?_);intro w7 S7 ga h7;have f7:=Zap F6.fr.lim ga m6;have R7:=R6.fr f7 (fun k e=>by injection e;omega);have F7:=F6.store m6 ga h7 (show 10+1≤15 by decide);have T7:=T6.mono f7.view;have l7:=F7.fr.lim;have N7:NodeAt o6 w7 i 0 gf off {n with voters:=QP }:=⟨m6,_,S7.putVo,R7⟩;clear S5 R5 S6 R6 S7 R7 s10 N5 F5 F6 T5 T6 hm r6;obtain⟨gp,⟨qtx,qba,qdi,qta,qda,qow,qmi,qvo,qtp,qou⟩,S8,R8⟩:=id N7;obtain⟨vA8,vc8,he⟩:=R8.vo.form;have he:qvo=.slice vA8 QP.length vc8:=he;subst he;have s10:=S8.nd10;have s8:=S8.nd8;simp only at s10 s8
    by_cases U:QP.length<3
    ·have gl:(QP.length:Int)<3:=by omega
     have Nr:NodeAt o6 w7 i 0 gf off QR:=by rw[x.out,if_pos U];exact N7
     go_wp2
     (try simp only[Exit.inBlock,Exit.then])
     refine bodyPost_ret (results_none rfl _ _ _) rfl ?_;exact⟨rfl,o6,F7,Nr⟩
    have gl:¬(QP.length:Int)<3:=by omega
    have x:Hid (QR=if (insert {n with voters:=QP } ⟨h,Zdk QP⟩ true).2 then tell (insert {n with voters:=QP } ⟨h,Zdk QP⟩ true).1 (prfM ⟨h,Zdk QP⟩)else(insert {n with voters:=QP } ⟨h,Zdk QP⟩ true).1):=by
     show _=_;rw[x.out,if_neg U]
    obtain⟨QS,Y⟩:∃q,Hid (Zdk QP=q):=⟨_,rfl⟩;rw[Y.out]at x;have sj:QP.length≤5:=by rw[←g6.out];simp;omega
    have gv:Hid (QS.length=QP.length):=by show _=_;rw[←Y.out];unfold Zdk;rw[List.length_mergeSort]
    have hy:=Ztc (R8.vo.reads (bs:=8) RI.mono (by(try simp only);omega))
    have I:∀w',Below w7.heap.size w7 w'→Fls.Ints w'.heap.size w' (.slice vA8 QP.length vc8) QP:=fun w' hb=>by
     obtain⟨A',c',e,_,_,_,_,C⟩:=hy.mono (Zaa hb);obtain⟨b,o',rfl,hc⟩:=C (by(try simp only);omega);refine .inr ⟨b,o',c',e,World.block_lt_of_cell? w' _ (hc 0 (by(try simp only);omega)),fun j hj=>?_⟩;have:=hc j hj;rw[this];simp[encI,hj]
    have row:=R8.ow;simp only at row;rw[hown]at row;obtain⟨ob2,ovb2,ovp2,A,c0,c1,c2,c3,rvb,rvp⟩:=row;have A:qow=.pointer (some ⟨ob2,0,none⟩):=A;subst A;obtain⟨bA,bc,rfl,gz⟩:=id rvb;obtain⟨pA,pc,rfl,gm⟩:=id rvp;have e0:=Zah _ _ _ _ c0;have e1:=Zah _ _ _ _ c1;have e2:=Zah _ _ _ _ c2;have e3:=Zah _ _ _ _ c3;clear gz gm hy c0 c1 c2 c3;go_upto_region 5 with fail
    go_cut [8] (fun p w'=>∃gb vA vc,p=.pointer (some ⟨gb,0,none⟩)∧Blk w' gb 79 #[.int .i64 h.author,.int .i64 h.round,.slice bA h.batches.length bc,.slice pA h.parents.length pc,.slice vA QS.length vc]∧Below w7.heap.size w7 w'∧w7.heap.size≤gb∧OwnI w' w7.heap.size (.slice vA QS.length vc) QS)
    case first =>
     refine Zr [14] (.q 0 (.q 1 (.q 2 (.q 3 (.q 4 (.q 5 (.q 6 (.q 7 (.q 8 (.q 9 (.alt 10 (.alt 11 (.q 12 (.l 13 (.l 14 .nil))) 13 (.l 11 (.q 12 (.l 14 .nil)))) 13 (.l 10 (.l 11 (.q 12 (.l 14 .nil))))))))))))))) fun W3 c=>?_
     repeat((first|refine pq (h:=⟨_,fun w' a=>by(have h1:=Zaa a _ _ s8;have U:=Zaa a _ _ s10;have d0:=Zaa a _ _ e0;have d1:=Zaa a _ _ e1;have d2:=Zaa a _ _ e2;have d3:=Zaa a _ _ e3;go_simp;exact rfl),?_⟩)|refine Zq ?_);simp only[sx])
     refine Zcm ?_ ?_
     ·refine Zd fun K d=>?_
      try simp only[sy]
      go_simp;refine((callsIn_wide (n:=6)).1 (Fls.values_in Fence.wide 6 trivial rfl vA8 QP.length vc8 _)).mono ?_;rintro e w5 ⟨rfl,Q⟩;have H:Blk w5 W3.heap.size 77 #[.slice vA8 QP.length vc8]:=by rw[Q];exact Blk.new _ _ _
      have R:Below W3.heap.size W3 w5:=by rw[Q];exact Zac _ _
      clear Q;have B:=c.trans (R.mono c.size);refine d.out _ _ (B) fun a=>?_
      clear d K
      try simp only[sx]
      repeat(refine Zq ?_;simp only[sx])
      refine Zcm ?_ ?_
      ·refine Zd fun K d=>?_
       try simp only[sy]
       go_simp;refine(Fls.sorted_in W3.heap.size (.slice vA8 QP.length vc8) QP (by omega) (by unfold maxLen;omega) w5 H.lt (H.cell 0) (I w5 B)).mono ?_;rintro e w6 ⟨v6,rfl,y,E⟩;have o6i:OwnI w6 w5.heap.size v6 QS:=⟨by rw[←Y.out];unfold Zdk;rw[List.length_mergeSort];exact y⟩;have u:=B.trans (E.mono B.size);obtain⟨A6',c6',rfl⟩:=o6i.form;clear y;refine d.out _ _ (u) fun a=>?_
       clear d K
       try simp only[sx]
       repeat(refine Zq ?_;simp only[sx])
       have sg:=E.size;have g9:=R.size;have gd:=c.size;refine Zd fun K d=>?_
       try simp only[sy]
       go_simp;have r:=Blk.new w6 79 #[.int .i64 0,.int .i64 0,.slice none 0 0,.slice none 0 0,.slice none 0 0];have F:=Zac w6 (.cells #[.int .i64 0,.int .i64 0,.slice none 0 0,.slice none 0 0,.slice none 0 0] 79);have V:w6.heap.size<(w6.alloc (.cells #[.int .i64 0,.int .i64 0,.slice none 0 0,.slice none 0 0,.slice none 0 0] 79)).heap.size:=by simp
       have g:=u.trans (F.mono u.size);obtain⟨wA,L⟩:∃wA,wA=w6.alloc (.cells #[.int .i64 0,.int .i64 0,.slice none 0 0,.slice none 0 0,.slice none 0 0] 79):=⟨_,rfl⟩;rw[←L]at r F V g⊢;clear L;have gj:=o6i.own.lt;have o6i:=o6i.kept F;refine d.out _ _ (g) fun a=>?_
       clear d K
       try simp only[sx]
       repeat(refine Zq ?_;simp only[sx])
       refine Zd fun K d=>?_
       try simp only[sy]
       refine Zh 5 r ?_;intro w9 z N;have M:Below w7.heap.size w7 w9:=Zab g g.size N (by intro k e;injection e;omega);have o9i:OwnI w9 w7.heap.size _ QS:=(Zln o6i N (fun k S e=>by have:=gj k S;omega)).base (by omega);refine d.out _ _ (M) fun a=>?_
       clear d K
       try simp only[sx]
       repeat(refine Zq ?_;simp only[sx])
       refine Zai ?_;go_wp2_with fail;go_meet;exact⟨_,A6',c6',rfl,z,M,by omega,o9i⟩
      ·have g9:=R.size;have gd:=c.size;refine Zd fun K d=>?_
       try simp only[sy]
       go_simp;have r:=Blk.new w5 79 #[.int .i64 0,.int .i64 0,.slice none 0 0,.slice none 0 0,.slice none 0 0];have F:=Zac w5 (.cells #[.int .i64 0,.int .i64 0,.slice none 0 0,.slice none 0 0,.slice none 0 0] 79);have V:w5.heap.size<(w5.alloc (.cells #[.int .i64 0,.int .i64 0,.slice none 0 0,.slice none 0 0,.slice none 0 0] 79)).heap.size:=by simp
       have g:=B.trans (F.mono B.size);obtain⟨wA,L⟩:∃wA,wA=w5.alloc (.cells #[.int .i64 0,.int .i64 0,.slice none 0 0,.slice none 0 0,.slice none 0 0] 79):=⟨_,rfl⟩;rw[←L]at r F V g⊢;clear L;refine d.out _ _ (g) fun a=>?_
       clear d K
       try simp only[sx]
       repeat(refine Zq ?_;simp only[sx])
       have H:=H.kept F;refine Zd fun K d=>?_
       try simp only[sy]
       go_simp;refine(Fls.sorted_in W3.heap.size (.slice vA8 QP.length vc8) QP (by omega) (by unfold maxLen;omega) wA H.lt (H.cell 0) (I wA g)).mono ?_;rintro e w6 ⟨v6,rfl,y,E⟩;have o6i:OwnI w6 wA.heap.size v6 QS:=⟨by rw[←Y.out];unfold Zdk;rw[List.length_mergeSort];exact y⟩;have u:=g.trans (E.mono g.size);obtain⟨A6',c6',rfl⟩:=o6i.form;clear y;refine d.out _ _ (u) fun a=>?_
       clear d K
       try simp only[sx]
       repeat(refine Zq ?_;simp only[sx])
       have r:=r.kept E;refine Zd fun K d=>?_
       try simp only[sy]
       refine Zh 5 r ?_;intro w9 z N;have M:Below w7.heap.size w7 w9:=Zab u u.size N (by intro k e;injection e;omega);have o9i:OwnI w9 w7.heap.size _ QS:=(Zln o6i N (fun k S e=>by have:=o6i.own.lt k S;omega)).base (by omega);refine d.out _ _ (M) fun a=>?_
       clear d K
       try simp only[sx]
       repeat(refine Zq ?_;simp only[sx])
       refine Zai ?_;go_wp2_with fail;go_meet;exact⟨_,A6',c6',rfl,z,M,by omega,o9i⟩
     ·have gd:=c.size;refine Zd fun K d=>?_
      try simp only[sy]
      go_simp;have r:=Blk.new W3 79 #[.int .i64 0,.int .i64 0,.slice none 0 0,.slice none 0 0,.slice none 0 0];have F:=Zac W3 (.cells #[.int .i64 0,.int .i64 0,.slice none 0 0,.slice none 0 0,.slice none 0 0] 79);have V:W3.heap.size<(W3.alloc (.cells #[.int .i64 0,.int .i64 0,.slice none 0 0,.slice none 0 0,.slice none 0 0] 79)).heap.size:=by simp
      have g:=c.trans (F.mono c.size);obtain⟨wA,L⟩:∃wA,wA=W3.alloc (.cells #[.int .i64 0,.int .i64 0,.slice none 0 0,.slice none 0 0,.slice none 0 0] 79):=⟨_,rfl⟩;rw[←L]at r F V g⊢;clear L;refine d.out _ _ (g) fun a=>?_
      clear d K
      try simp only[sx]
      repeat(refine Zq ?_;simp only[sx])
      refine Zd fun K d=>?_
      try simp only[sy]
      go_simp;refine((callsIn_wide (n:=6)).1 (Fls.values_in Fence.wide 6 trivial rfl vA8 QP.length vc8 _)).mono ?_;rintro e w5 ⟨rfl,Q⟩;have H:Blk w5 wA.heap.size 77 #[.slice vA8 QP.length vc8]:=by rw[Q];exact Blk.new _ _ _
      have R:Below wA.heap.size wA w5:=by rw[Q];exact Zac _ _
      clear Q;have B:=g.trans (R.mono g.size);refine d.out _ _ (B) fun a=>?_
      clear d K
      try simp only[sx]
      repeat(refine Zq ?_;simp only[sx])
      have g9:=R.size;have r:=r.kept R;refine Zd fun K d=>?_
      try simp only[sy]
      go_simp;refine(Fls.sorted_in wA.heap.size (.slice vA8 QP.length vc8) QP (by omega) (by unfold maxLen;omega) w5 H.lt (H.cell 0) (I w5 B)).mono ?_;rintro e w6 ⟨v6,rfl,y,E⟩;have o6i:OwnI w6 w5.heap.size v6 QS:=⟨by rw[←Y.out];unfold Zdk;rw[List.length_mergeSort];exact y⟩;have u:=B.trans (E.mono B.size);obtain⟨A6',c6',rfl⟩:=o6i.form;clear y;refine d.out _ _ (u) fun a=>?_
      clear d K
      try simp only[sx]
      repeat(refine Zq ?_;simp only[sx])
      have r:=r.kept E;refine Zd fun K d=>?_
      try simp only[sy]
      refine Zh 5 r ?_;intro w9 z N;have M:Below w7.heap.size w7 w9:=Zab u u.size N (by intro k e;injection e;omega);have o9i:OwnI w9 w7.heap.size _ QS:=(Zln o6i N (fun k S e=>by have:=o6i.own.lt k S;omega)).base (by omega);refine d.out _ _ (M) fun a=>?_
      clear d K
      try simp only[sx]
      repeat(refine Zq ?_;simp only[sx])
      refine Zai ?_;go_wp2_with fail;go_meet;exact⟨_,A6',c6',rfl,z,M,by omega,o9i⟩
    case rest =>
     obtain⟨gb,vA,vc,rfl,z,hn,gu,o9i⟩:=hcut;obtain⟨w9,gw⟩:∃w':World,w'=wc:=⟨_,rfl⟩;subst gw;have v9:=Zaf l7 hn;have l9:=Zam l7 hn;have N9:=N7.below l7 hn;have T9:=T7.mono v9;have F9:=F7.below hn;have rvb:=rvb.mono Ze v9;have rvp:=rvp.mono Ze v9;have rvv:RIs (Zas o6 w9) (.slice vA QS.length vc) QS:=(Zzs o9i (by have:=gv.out;omega)).mono (Zbz l7);have gc:o6 gb=none:=l7.none gb gu;have b0:=z.cell 0;have b1:=z.cell 1;have b2:=z.cell 2;have b3:=z.cell 3;have b4:=z.cell 4;simp at b0 b1 b2 b3 b4;obtain⟨QI,g3⟩:∃q,Hid (insert {n with voters:=QP } ⟨h,QS⟩ true=q):=⟨_,rfl⟩
     have hw:QI.1.out=n.out:=by
      rw[←g3.out];unfold Fl.insert;split
      ·rfl
      ·rw[if_pos rfl]
       split<;>rfl
     have g8:=Zb hw;clear hw o9i N7 T7 F7 s8 s10 e0 e1 e2 e3 S8 R8 I v9 gp;rw[g3.out]at x;go_wp2_with fail;refine(Zjo i 0 gf off {n with voters:=QP } ⟨h,QS⟩ true _ _ _ o6 _ l9 hi N9 T9 rvb rvp rvv).mono ?_;rintro e w10 ⟨rfl,o10,F910,N10⟩;rw[g3.out]at N10⊢;have F10:=F9.trans F910;have J:=Za3 z F910.fr gc;have rvb:=rvb.mono Ze F910.fr.view;have rvp:=rvp.mono Ze F910.fr.view;have rvv:=rvv.mono F910.fr.view;have l10:=F910.fr.lim;have b0:=J.cell 0;have b1:=J.cell 1;have b2:=J.cell 2;have b3:=J.cell 3;have b4:=J.cell 4;simp at b0 b1 b2 b3 b4;obtain⟨QN,QK⟩:=QI;cases QK
     ·have D:QR=QN:=x.out;have Nr:NodeAt o10 w10 i 0 gf off QR:=by rw[D];exact N10
      clear D;go_wp2;go_end0;exact⟨rfl,o10,F10,Nr⟩
     ·have D:QR=tell QN (prfM ⟨h,QS⟩):=x.out;go_wp2_with fail;refine(Zid i 0 gf off QN (prfM ⟨h,QS⟩) _ _ _ _ _ _ _ o10 _ l10 hi N10 (Zop rvb rvp rvv) (fun s hs=>by cases hs) (by have:=g8.out;rw[this];exact H4.out)).mono ?_;rintro e w11 ⟨rfl,o11,F11,N11⟩;have F12:=F10.trans F11;rw[←D]at N11;clear D;go_wp2;go_end0;exact⟨rfl,o11,F12,N11⟩
end Fl
end Go.Proofs.YtbcpbnfojfiekaaGreatDoor
