/- A part of what the last text stands on. -/
import Derived.Test.YtbcpbnfojfiekaaGreatDoorK27
import Derived.Test.YtbcpbnfojfiekaaGreatDoorK34
import Derived.Test.YtbcpbnfojfiekaaGreatDoorK35
namespace Go.Proofs.YtbcpbnfojfiekaaGreatDoor
open Go.ChangeShapes Go.WideShapes Go.ChangeAt Go.RowKit Go.Proofs.Tryz Qa Qb Qc
set_option linter.all false
set_option maxHeartbeats 20000000
set_option maxRecDepth 100000
variable{w w':World}{k g b:Nat}
namespace Fl
theorem Zm8{o:Own}{t:Nat×Nat}(d:w.grownBy w' (some b)):VLe (Zas (mark o b (some t)) w) (Zas o w'):=fun a v e=>by
 unfold Zas at e⊢
 split at e
 ·cases e
 ·rename_i hn
  have c:a.block≠b:=fun h=>by rw[h,Zc9]at hn;exact hn rfl
  rw[Zb1 _ _ c]at hn
  rw[if_neg hn]
  exact d.cell e (by intro h;injection h with h;exact c h)
theorem Zyp{o:Own}{t:Nat×Nat}(d:w.grownBy w' (some b)):VLe (Zas (mark o b (some t)) w) (Zas (mark o b (some t)) w'):=fun a v e=>by
 unfold Zas at e⊢
 split at e
 ·cases e
 ·rename_i hn
  have c:a.block≠b:=fun h=>by rw[h,Zc9]at hn;exact hn rfl
  rw[if_neg hn]
  exact d.cell e (by intro h;injection h with h;exact c h)
theorem Zoo{o:Own}{t:Nat×Nat}{me:Int}(c:Blk w g 3 #[.int .i64 me])(b:o g=some t):Row o t 1 RI 3 w (.slice (some ⟨g,0,none⟩) 1 1) [me]:=by
 have h:OwnVec (fun n:Int=>Value.int .i64 n) 3 w 0 (.slice (some ⟨g,0,none⟩) 1 1) [me]:=OwnVec.lit (by simpa using c) (Zf _) rfl (by decide);refine⟨⟨[[.int .i64 me]],by simpa using h.own,rfl,fun i hi=>?_⟩,fun g' a=>?_⟩
 ·have:i=0:=by simpa using hi
  subst this;exact⟨_,rfl,rfl,rfl⟩
 ·injection a with a;rw[←a];exact b
structure PSt (i tb g off:Nat) (o0:Own) (w0:World) (gh gb:Nat) (h:Hdr) (vb vp sd:Value) (s:Slot) (n:Nd) (v:Vals) (o:Own) (w:World):Prop where
 l:Lim o w
 m:o g=some (8,tb)
 S:Sec w g off (ndC n v)
 R:NdR o w i n v
 F:NFr i tb g off o0 w0 o w
 hn:o gh=none
 H:Blk w gh 76 #[.int .i64 h.author,.int .i64 h.round,vb,vp]
 bn:o gb=none
 B:Blk w gb 85 #[.int .i64 s.author,.int .i64 s.round,sd]
 rb:RDigs (Zas o w) vb h.batches
 rp:RDigs (Zas o w) vp h.parents
 rs:Zan (Zas o w) sd s.digest
section
variable {i tb g off:Nat} {o0 o:Own} {w0 w w':World} {gh gb:Nat} {h:Hdr} {vb vp sd:Value} {s:Slot} {n n':Nd} {v v':Vals}
theorem PSt.below(P:PSt i tb g off o0 w0 gh gb h vb vp sd s n v o w)(a:Below w.heap.size w w'):PSt i tb g off o0 w0 gh gb h vb vp sd s n v o w':=by
 have f:=Fr.of_below (T:=fun _=>False) P.l a;exact⟨f.lim,P.m,P.S.fr f P.m (fun h=>h),P.R.fr f (fun _ h=>h),P.F.below a,P.hn,P.H.kept a,P.bn,P.B.kept a,P.rb.mono Ze f.view,P.rp.mono Ze f.view,P.rs.mono f.view⟩
theorem PSt.lit(P:PSt i tb g off o0 w0 gh gb h vb vp sd s n v o w)(hi:i<5)(x:Obj):PSt i tb g off o0 w0 gh gb h vb vp sd s n v (mark o w.heap.size (some (i,4))) (w.alloc x):=by
 have f:=Fr.alloc_mark (T:=fun _=>False) P.l x (some (i,4)) (fun k a=>by injection a with a;injection a;omega);have ne:∀b,b<w.heap.size→b≠w.heap.size:=fun b c=>by omega
 exact⟨f.lim,by rw[Zb1 _ _ (ne _ P.S.lt)];exact P.m,P.S.fr f P.m (fun h=>h),P.R.fr f (fun _ h=>h),P.F.step P.m f (fun _ h=>h.elim) (by omega),by rw[Zb1 _ _ (ne _ P.H.lt)];exact P.hn,P.H.alloc _,by rw[Zb1 _ _ (ne _ P.B.lt)];exact P.bn,P.B.alloc _,P.rb.mono Ze f.view,P.rp.mono Ze f.view,P.rs.mono f.view⟩
theorem PSt.store(P:PSt i tb g off o0 w0 gh gb h vb vp sd s n v o w)(hi:i<5){m:Nat}(j:Sec w' g off (ndC n' v'))(a:w.grownBy w' (some g))(d:Only w w' g (off+k) m)(b:k+m≤15)(c:NdR o w' i n v→NdR o w' i n' v'):PSt i tb g off o0 w0 gh gb h vb vp sd s n' v' o w':=by
 have f:=Zap P.l a P.m;exact⟨f.lim,P.m,j,c (P.R.fr f (fun k e=>by injection e;omega)),P.F.store P.m a d b,P.hn,Za3 P.H f P.hn,P.bn,Za3 P.B f P.bn,P.rb.mono Ze f.view,P.rp.mono Ze f.view,P.rs.mono f.view⟩
theorem PSt.cells(P:PSt i tb g off o0 w0 gh gb h vb vp sd s n v o w){me:Int}(a:n.me=me):w.cell? ⟨gb,2,none⟩=some sd∧w.cell? ⟨g,off,none⟩=some (.int .i64 me):=by
 refine⟨?_,by rw[←a];exact P.S.nd0⟩;have:=P.B.cell 2;simpa using this
theorem PSt.own_ok(P:PSt i tb g off o0 w0 gh gb h vb vp sd s n v o w):ROwn (Zas o w) (.pointer (some ⟨gh,0,none⟩)) (some h):=by
 have c:∀j,Zas o w ⟨gh,j,none⟩=w.cell? ⟨gh,j,none⟩:=fun j=>by unfold Zas;rw[if_neg (by rw[P.hn];simp)]
 refine⟨gh,vb,vp,rfl,?_,?_,?_,?_,P.rb,P.rp⟩
 ·rw[c];have:=P.H.cell 0;simpa using this
 ·rw[c];have:=P.H.cell 1;simpa using this
 ·rw[c];have:=P.H.cell 2;simpa using this
 ·rw[c];have:=P.H.cell 3;simpa using this
end
theorem Zlm(i tb g off:Nat)(n:Nd)(round:Int)(o:Own)(w:World)(U:Lim o w)(hi:i<5)(hN:NodeAt o w i tb g off n)(hT:Tabs (Zas o w))(an:0≤round)(ak:round≤140737488355328)(h4:n.out.length≤400)(s4:n.table.length≤400)(h8:n.digs.length≤800)(sa:n.digs.length=n.bats.length) :
 Calls prog 157 #[.pointer (some ⟨g,off,none⟩),.int .i64 round] w fun e w'=>e=.returned (.tuple #[])∧∃o',NFr i tb g off o w o' w'∧NodeAt o' w' i tb g off (propose n round):=by
 obtain⟨QR,gm⟩:∃q,Hid (propose n round=q):=⟨_,rfl⟩;obtain⟨LB,hv⟩:∃q,Hid (loose n=q):=⟨_,rfl⟩;obtain⟨LP,g0⟩:∃q,Hid ((if 1<round then digV n.dag (round-1)else [])=q):=⟨_,rfl⟩;have hH:Hid (Zd5 n round=⟨n.me,round,LB,LP⟩):=by show _=_;unfold Zd5;rw[hv.out,g0.out]
 have HQ:Hid (QR=if Ze5 n.table ⟨n.me,round,LB,LP⟩≠0∨Zfr n (offM ⟨n.me,round,LB,LP⟩)≠0 then n
  else tell {kept n (offM ⟨n.me,round,LB,LP⟩)with table:=Zc6 n.table ⟨n.me,round,LB,LP⟩,own:=some ⟨n.me,round,LB,LP⟩,mine:=(Zcz n.table ⟨n.me,round,LB,LP⟩).digest,voters:=[n.me] } (offM ⟨n.me,round,LB,LP⟩)):=by
  show _=_;rw[←gm.out];unfold propose;rw[hH.out]
 rw[gm.out];clear gm hH;have H4:=Zb h4;have a6:=Zb s4;have H8:=Zb h8;have HB:=Zb sa;clear h4 s4 h8 sa;obtain⟨su,⟨vtx,vba,vdi,vta,vda,vow,vmi,vvo,vtp,vou⟩,S0,R0⟩:=id hN;have s0:=S0.nd0;have s7:=S0.nd7;simp only at s0 s7;have rda:RCrts w.cell? vda n.dag:=R0.da.mono RCrt.mono (Zah _ _);obtain⟨daA,dac,gn,_⟩:=id rda;have gn:vda=.slice daA n.dag.length dac:=gn;subst gn;clear S0 R0 su;go_enter func157,ntmps157;go_upto_region 0 with fail
 go_cut [4] (fun p w'=>∃gh bA bc,p=.pointer (some ⟨gh,0,none⟩)∧w.heap.size≤gh∧Blk w' gh 76 #[.int .i64 n.me,.int .i64 round,.slice bA LB.length bc,.slice none 0 0]∧Below w.heap.size w w'∧RDigs (Zas (mark o gh (some (7,gh))) w') (.slice bA LB.length bc) LB)
 case first =>
  refine Zr [9] (.q 0 (.q 1 (.q 2 (.q 3 (.q 4 (.q 5 (.alt 6 (.q 7 (.l 8 (.l 9 .nil))) 8 (.l 6 (.q 7 (.l 9 .nil)))))))))) fun W3 c=>?_
  repeat((first|refine pq (h:=⟨_,fun w' f=>by(have h1:=Zaa f _ _ s0;go_simp;exact rfl),?_⟩)|refine Zq ?_);simp only[sx])
  refine Zcm ?_ ?_
  ·refine Zd fun K a=>?_
   try simp only[sy]
   go_simp;refine(Zqg i tb g off n o _ (Zam U c) (hN.below U c) H8.out HB.out).mono ?_;rintro e w5 ⟨v5,rfl,hz,rv5⟩;rw[hv.out]at rv5;have b:=c.trans (hz.mono c.size);have hp:=b.size;obtain⟨A5,c5,rfl,P⟩:=id rv5;clear P;refine a.out _ _ (b) fun f=>?_
   clear a K
   try simp only[sx]
   repeat(refine Zq ?_;simp only[sx])
   refine Zd fun K a=>?_
   try simp only[sy]
   go_simp;have O:=Blk.new w5 76 #[.int .i64 0,.int .i64 0,.slice none 0 0,.slice none 0 0];have C:=Zac w5 (.cells #[.int .i64 0,.int .i64 0,.slice none 0 0,.slice none 0 0] 76);refine a.out _ _ (b.trans (C.mono hp)) fun f=>?_
   clear a K
   try simp only[sx]
   refine Zd fun K a=>?_
   try simp only[sy]
   refine Zh 4 O ?_;intro w7 G D;have B:Below w5.heap.size w5 w7:=Zab C C.size D (by intro k e;injection e;omega);refine a.out _ _ (b.trans (B.mono hp)) fun f=>?_
   clear a K
   try simp only[sx]
   repeat(refine Zq ?_;simp only[sx])
   refine Zai ?_;go_wp2_with fail;go_meet;exact⟨_,A5,c5,rfl,hp,G,b.trans (B.mono hp),rv5.mono Ze (Zx2 (T:=fun _=>False) (Zam U b) B G.lt).view⟩
  ·refine Zd fun K a=>?_
   try simp only[sy]
   go_simp;have O:=Blk.new W3 76 #[.int .i64 0,.int .i64 0,.slice none 0 0,.slice none 0 0];have C:=Zac W3 (.cells #[.int .i64 0,.int .i64 0,.slice none 0 0,.slice none 0 0] 76);have u:=c.trans (C.mono c.size);have sw:=c.size;have Q:W3.heap.size<(W3.alloc (.cells #[.int .i64 0,.int .i64 0,.slice none 0 0,.slice none 0 0] 76)).heap.size:=by simp
   refine a.out _ _ (u) fun f=>?_
   clear a K
   try simp only[sx]
   repeat(refine Zq ?_;simp only[sx])
   refine Zd fun K a=>?_
   try simp only[sy]
   go_simp;have f6:=Zx2 (T:=fun _=>False) (Zam U c) C Q;refine(Zqg i tb g off n _ _ f6.lim ((hN.below U c).fr f6 (fun _ h=>h) (fun h=>h)) H8.out HB.out).mono ?_;rintro e w5 ⟨v5,rfl,hz,rv5⟩;rw[hv.out]at rv5;have b:=u.trans (hz.mono u.size);have gj:=O.kept hz;obtain⟨A5,c5,rfl,P⟩:=id rv5;clear P;refine a.out _ _ (b) fun f=>?_
   clear a K
   try simp only[sx]
   repeat(refine Zq ?_;simp only[sx])
   refine Zd fun K a=>?_
   try simp only[sy]
   refine Zh 4 gj ?_;intro w7 G D;have L:Below w.heap.size w w7:=Zab b b.size D (by intro k e;injection e;omega);refine a.out _ _ (L) fun f=>?_
   clear a K
   try simp only[sx]
   repeat(refine Zq ?_;simp only[sx])
   refine Zai ?_;go_wp2_with fail;go_meet;exact⟨_,A5,c5,rfl,sw,G,L,rv5.mono Ze (Zyp D)⟩
 case rest =>
  obtain⟨gh,bA,bc,rfl,a7,ho,v,rlb⟩:=hcut;obtain⟨w1,gy⟩:∃w1:World,w1=wc:=⟨_,rfl⟩;subst gy;have l1:=Zam U v;have N1:=hN.below U v;have T1:=hT.mono (Zaf U v);have gz:=v.size;have rda1:=rda.mono RCrt.mono (Zaa v);have y7:=Zaa v _ _ s7;clear s0 s7 rda;obtain⟨QB,sz⟩:∃q,Hid (decide (1<round)=q):=⟨_,rfl⟩;go_upto_if 17 with fail
  go_cut [18] (fun _ w'=>∃pA pc,Blk w' gh 76 #[.int .i64 n.me,.int .i64 round,.slice bA LB.length bc,.slice pA LP.length pc]∧Below w.heap.size w w'∧RDigs (Zas o w') (.slice bA LB.length bc) LB∧RDigs (Zas o w') (.slice pA LP.length pc) LP)
  case first =>
   have a1:Tabs w1.cell?:=T1.mono (Zah _ _)
   by_cases hr:1<round
   ·have I:Hid (digV n.dag (round-1)=LP):=by show _=_;rw[←g0.out,if_pos hr]
    obtain⟨r1,g3⟩:∃z:Int,z=round-1:=⟨_,rfl⟩;have gy:IntKind.i64.wrap (round-1)=r1:=by rw[IntKind.wrap_i64];omega
    rw[←g3]at I;clear g3;go_wp2_with fail;refine(Zl5 _ n.dag r1 _ rda1 a1).mono ?_;rintro e w2 ⟨d,rfl,g6,rd⟩;rw[I.out]at rd;obtain⟨pA,pc,rfl,sq⟩:=id rd;clear sq;have sg:=ho.kept g6;have g1:=v.trans (g6.mono gz);go_wp2_with (refine Zaj (n:=1) rfl rfl rfl rfl (by kernel_rfl) rfl sg (by simp) rfl ?_);intro w3 so gq;go_wp2_with fail;go_meet;have s1:Below w.heap.size w w3:=Zab g1 g1.size gq (by intro k e;injection e;omega);have s3:=ho.lt;have gp:=Zjr gq s3;exact⟨pA,pc,so,s1,rlb.mono Ze (Zm8 (Zae (Zal _ g6) gq)),rd.mono Ze (gp.trans ((Zbm (b':=w.heap.size) (by omega)).trans (Zbz U)))⟩
   ·have I:Hid (LP=[]):=by show _=_;rw[←g0.out,if_neg hr]
    go_wp2_with fail;go_meet
    exact⟨none,0,by rw[I.out];exact ho,v,rlb.mono Ze (Zm8 (Zff _ _)),by rw[I.out];exact RDigs.nil _⟩
  case rest =>
   obtain⟨pA,pc,hy,E,rlb0,rlp0⟩:=hcut;obtain⟨W,hW⟩:∃W:World,W=wc:=⟨_,rfl⟩;subst hW;clear rlb ho N1 T1 l1 rda1 y7 gz g0 hv sz;have l1:=Zam U E;have aj:=E.size;have N1:=hN.below U E;have T1:=hT.mono (Zaf U E);have F1:NFr i tb g off o w o W:=(NFr.refl U).below E;obtain⟨h,hh⟩:∃h:Hdr,h=⟨n.me,round,LB,LP⟩:=⟨_,rfl⟩;rw[←hh]at HQ;have rb1:RDigs (Zas o W) (.slice bA LB.length bc) h.batches:=by rw[hh];exact rlb0
   have rp1:RDigs (Zas o W) (.slice pA LP.length pc) h.parents:=by rw[hh];exact rlp0
   have eb:Hid (LB.length=h.batches.length):=by show _=_;rw[hh]
   have ep:Hid (LP.length=h.parents.length):=by show _=_;rw[hh]
   have e1:Hid (n.me=h.author):=by show _=_;rw[hh]
   have e2:Hid (round=h.round):=by show _=_;rw[hh]
   rw[eb.out,ep.out,e1.out,e2.out]at hy;rw[eb.out]at rb1;rw[ep.out]at rp1;obtain⟨sp,⟨xtx,xba,xdi,xta,xda,xow,xmi,xvo,xtp,xou⟩,S1,R1⟩:=id N1;have rta1:RSlots W.cell? xta n.table:=R1.ta.reads (bs:=40) RSlot.mono (by have:=a6.out;omega);obtain⟨taA,tac,g7⟩:=R1.ta.form;have g7:xta=.slice taA n.table.length tac:=g7;subst g7;have s6:=S1.nd6;simp only at s6;obtain⟨QE,g9⟩:∃q,Hid (Ze5 n.table h=q):=⟨_,rfl⟩;obtain⟨QL,gl⟩:∃q,Hid (Zc6 n.table h=q):=⟨_,rfl⟩;obtain⟨QS,he⟩:∃q,Hid (Zcz n.table h=q):=⟨_,rfl⟩;rw[g9.out,gl.out,he.out]at HQ;have HH:=Zb hh;clear S1 R1 rlb0 rlp0 eb ep hh;go_upto_region 3 with fail
   go_cut [5,6,7] (fun tv p e w'=>∃gb sd tA2 tc2,tv=.slice tA2 QL.length tc2∧p=.pointer (some ⟨gb,0,none⟩)∧e=.int .i64 QE∧Blk w' gb 85 #[.int .i64 QS.author,.int .i64 QS.round,sd]∧Below W.heap.size W w'∧W.heap.size≤gb∧some gb≠(Value.slice tA2 QL.length tc2).ownBlock∧OwnSl 3 (RFrom W.heap.size RSlot) 85 w' W.heap.size (.slice tA2 QL.length tc2) QL∧Zan (View.from (View.but w'.cell? (Value.slice tA2 QL.length tc2).ownBlock) W.heap.size) sd QS.digest)
   case first =>
    refine Zr [13] (.q 0 (.q 1 (.q 2 (.q 3 (.q 4 (.alt 5 (.q 6 (.q 7 (.q 8 (.q 9 (.l 10 (.q 11 (.l 12 (.qc 13 .nil)))))))) 10 (.l 5 (.q 6 (.q 7 (.q 8 (.q 9 (.q 11 (.l 12 (.qc 13 .nil)))))))))))))) fun W3 c=>?_
    repeat((first|refine pq (h:=⟨_,fun w' f=>by(have h1:=Zaa f _ _ s6;have hx:=hy.kept f;have h2:=hx.cell 0;have h3:=hx.cell 1;have h4:=hx.cell 2;have h5:=hx.cell 3;simp at h2 h3 h4 h5;go_simp;exact rfl),?_⟩)|refine Zq ?_);simp only[sx])
    refine Zcm ?_ ?_
    ·refine Zd fun K a=>?_
     try simp only[sy]
     go_simp;have q3:=Zaa c;refine(Zgy _ n.table h _ _ _ (rta1.mono RSlot.mono q3) ((rb1.mono Ze (Zah _ _)).mono Ze q3) ((rp1.mono Ze (Zah _ _)).mono Ze q3) ((T1.mono (Zah _ _)).mono q3)).mono ?_;rintro e w5 ⟨d5,sd,rfl,C,od5,rd5⟩;rw[g9.out,he.out];rw[gl.out]at od5;rw[he.out]at rd5;have b:=c.trans (C.mono c.size);obtain⟨A5,c5,rfl⟩:=od5.form;have Y:=od5.lt;obtain⟨sA,sc,rfl,P⟩:=id rd5;clear P;refine a.out _ _ (b) fun f=>?_
     clear a K
     try simp only[sx]
     repeat(refine Zq ?_;simp only[sx])
     refine Zd fun K a=>?_
     try simp only[sy]
     go_simp;have O:=Blk.new w5 85 #[.int .i64 0,.int .i64 0,.slice none 0 0];have J:=Zac w5 (.cells #[.int .i64 0,.int .i64 0,.slice none 0 0] 85);have u:=b.trans (J.mono b.size);have M:=b.size;refine a.out _ _ (u) fun f=>?_
     clear a K
     try simp only[sx]
     repeat(refine Zq ?_;simp only[sx])
     refine Zd fun K a=>?_
     try simp only[sy]
     refine Zh 3 O ?_;intro w7 G D;have B:Below w5.heap.size w5 w7:=Zab J J.size D (by intro k e;injection e;omega);have L:Below W.heap.size W w7:=b.trans (B.mono b.size);have od7:=(od5.kept (RFrom.mono RSlot.mono) B).lower RSlot.mono c.size;have rd7:=(rd5.mono (Za0 _ (Zmh B _))).mono (Zbm (b':=W.heap.size) c.size);refine a.out _ _ (L) fun f=>?_
     clear a K
     try simp only[sx]
     repeat(refine Zq ?_;simp only[sx])
     refine Zai ?_;go_wp2_with fail;go_meet;exact⟨_,_,A5,c5,rfl,rfl,rfl,G,L,M,fun e=>by have:=(Y _ e.symm).2;omega,od7,rd7⟩
    ·refine Zd fun K a=>?_
     try simp only[sy]
     go_simp;have O:=Blk.new W3 85 #[.int .i64 0,.int .i64 0,.slice none 0 0];have J:=Zac W3 (.cells #[.int .i64 0,.int .i64 0,.slice none 0 0] 85);have u:=c.trans (J.mono c.size);have M:=c.size;have Q:W3.heap.size<(W3.alloc (.cells #[.int .i64 0,.int .i64 0,.slice none 0 0] 85)).heap.size:=by simp
     refine a.out _ _ (u) fun f=>?_
     clear a K
     try simp only[sx]
     repeat(refine Zq ?_;simp only[sx])
     refine Zd fun K a=>?_
     try simp only[sy]
     go_simp;have q3:=Zaa u;refine(Zgy _ n.table h _ _ _ (rta1.mono RSlot.mono q3) ((rb1.mono Ze (Zah _ _)).mono Ze q3) ((rp1.mono Ze (Zah _ _)).mono Ze q3) ((T1.mono (Zah _ _)).mono q3)).mono ?_;rintro e w5 ⟨d5,sd,rfl,C,od5,rd5⟩;rw[g9.out,he.out];rw[gl.out]at od5;rw[he.out]at rd5;have b:=u.trans (C.mono u.size);have gj:=O.kept C;have Y:=od5.lt;obtain⟨A5,c5,rfl⟩:=od5.form;obtain⟨sA,sc,rfl,P⟩:=id rd5;clear P;refine a.out _ _ (b) fun f=>?_
     clear a K
     try simp only[sx]
     repeat(refine Zq ?_;simp only[sx])
     refine Zd fun K a=>?_
     try simp only[sy]
     refine Zh 3 gj ?_;intro w7 G D;have L:Below W.heap.size W w7:=Zab b b.size D (by intro k e;injection e;omega);have od7:=(od5.low RSlot.mono D Q).lower RSlot.mono (b':=W.heap.size) u.size;have rd7:=(rd5.mono (Ziq D Q _)).mono (Zbm (b':=W.heap.size) u.size);refine a.out _ _ (L) fun f=>?_
     clear a K
     try simp only[sx]
     repeat(refine Zq ?_;simp only[sx])
     refine Zai ?_;go_wp2_with fail;go_meet;exact⟨_,_,A5,c5,rfl,rfl,rfl,G,L,M,fun e=>by have:=(Y _ e.symm).1;omega,od7,rd7⟩
   case rest =>
    obtain⟨gb,sd,tA2,tc2,rfl,rfl,rfl,hB,v,M,gc,od,rd⟩:=hcut;obtain⟨o2,row2,sb,hm,gx⟩:=Zjf RSlot.mono l1 v (Za _) od (pend (.slice tA2 QL.length tc2)) (Zw2 _);have a2:(Value.slice tA2 QL.length tc2).ownBlock≠none→w.heap.size≤(pend (.slice tA2 QL.length tc2)).2:=Zw3 fun q hq=>by have:=(od.lt q hq).1;omega
    have f2:=sb (fun _=>False);have N2:=N1.fr f2 (fun _ h=>h) (fun h=>h);have F2:=F1.step N1.mark f2 (fun _ h=>h.elim) (by omega);have rsd:=rd.mono hm;have rb2:=rb1.mono Ze f2.view;have rp2:=rp1.mono Ze f2.view;have hn:o2 gb=none:=(gx gb gc).trans (l1.none gb M);have hc:o2 gh=none:=(gx gh (fun e=>by have:=(od.lt _ e.symm).1;have:=hy.lt;omega)).trans (U.none gh a7);have A:=hy.kept v;have l2:=f2.lim;have h0:=A.cell 0;have h1:=A.cell 1;have h2:=A.cell 2;have h3:=A.cell 3;simp at h0 h1 h2 h3;clear N1 rb1 rp1 rta1 T1 l1 F1 f2 sb hm od rd sp;obtain⟨sA,sc,rfl,st⟩:=id rsd;clear st
    by_cases hE:QE=0
    rotate_left
    ·have ah:(QE==0)=false:=by simpa using hE
     have hg:NodeAt o2 wc i tb g off QR:=by
      rw[HQ.out,if_pos (.inl hE)];exact N2
     go_wp2
     (try simp only[Exit.inBlock,Exit.then])
     refine bodyPost_ret (results_none rfl _ _ _) rfl ?_;exact⟨rfl,o2,F2,hg⟩
    subst hE;go_wp2_with fail;refine(Zkq i tb g off n (offM h) _ _ _ _ _ _ _ o2 _ l2 hi N2 (Zim rb2 rp2) (fun s hs=>by cases hs)).mono ?_;rintro e w4 ⟨rfl,o4,F34,N4⟩
    have gv:∀{q:Nat×Nat},q.1=7→¬(q=(8,tb)∨q.1=i):=fun h7 e=>by
     rcases e with e|e
     ·rw[e]at h7;cases h7
     ·omega
    have hb:Fl.keep n (offM h)=if Zfr n (offM h)=0 then(kept n (offM h),true)else(n,false):=rfl
    have gf:=Za3 hB F34.fr hn;have hf:o4 gb=none:=((F34.fr.keep gb hB.lt (fun t ht=>by rw[hn]at ht;cases ht)).1).trans hn;have gd:=Za3 A F34.fr hc;have hj:o4 gh=none:=((F34.fr.keep gh A.lt (fun t ht=>by rw[hc]at ht;cases ht)).1).trans hc;have rsd4:=rsd.mono F34.fr.view;have rb4:=rb2.mono Ze F34.fr.view;have rp4:=rp2.mono Ze F34.fr.view;have row4:=row2.fr RSlot.mono F34.fr (gv rfl);have l4:=F34.fr.lim;have F4:=F2.trans F34
    by_cases N:Zfr n (offM h)=0
    rotate_left
    ·have hg:NodeAt o4 w4 i tb g off QR:=by
      rw[HQ.out,if_pos (.inr N)];rw[hb,if_neg N]at N4;exact N4
     rw[hb,if_neg N];clear N4 N2 hb N;go_wp2
     (try simp only[Exit.inBlock,Exit.then])
     refine bodyPost_ret (results_none rfl _ _ _) rfl ?_;exact⟨rfl,o4,F4,hg⟩
    rw[hb,if_pos N]at N4⊢
    have gg:Hid (QR=tell {kept n (offM h)with table:=QL,own:=some h,mine:=QS.digest,voters:=[n.me] } (offM h)):=by
     show _=_;rw[HQ.out,if_neg];rintro(e|e)
     ·exact e rfl
     ·exact e N
    clear N2 rsd hB A row2 l2 F2 F34 hb N gv h0 h1 h2 h3 HQ rb2 rp2;obtain⟨o5,row5,f5⟩:=Zlj RSlot.mono l4 row4 (i,3) (by simp;omega);obtain⟨g8,⟨ztx,zba,zdi,zta,zda,zow,zmi,zvo,ztp,zou⟩,S4,R4⟩:=N4
    have s5:∀{q:Nat×Nat},q.1≠7→q.1≠i→¬((q=pend (.slice tA2 QL.length tc2)∧(Value.slice tA2 QL.length tc2).ownBlock≠none)∨q=(i,3)):=fun h7 a0 e=>by
     rcases e with ⟨e,_⟩|e
     ·exact h7 (by rw[e];rfl)
     ·exact a0 (by rw[e])
    have S5:=S4.fr f5 g8 (s5 (by simp) (by simp;omega));have m5:=Zb6 S4.lt f5 g8 (s5 (by simp) (by simp;omega))
    have R5:=R4.ta2 f5 (fun k hk e=>by
     rcases e with ⟨e,_⟩|e
     ·have:=congrArg Prod.fst e;simp[pend]at this;(try omega)
     ·injection e with _ e;exact hk e) row5
    have F5:=F4.step g8 f5 (fun t ht=>by
     rcases ht with ⟨e,a4⟩|e
     ·exact .inr ⟨by rw[e];rfl,by rw[e];have:=a2 a4;omega⟩
     ·exact .inl (by rw[e])) (by omega)
    have l5:=f5.lim;have Z:o5 gb=none:=((f5.keep gb gf.lt (fun t ht=>by rw[hf]at ht;cases ht)).1).trans hf;have ha:o5 gh=none:=((f5.keep gh gd.lt (fun t ht=>by rw[hj]at ht;cases ht)).1).trans hj;have rsd5:=rsd4.mono f5.view;have rb5:=rb4.mono Ze f5.view;have rp5:=rp4.mono Ze f5.view;go_wp2_with (refine Sec.store S5 (i:=6) [.slice tA2 QL.length tc2] (show 6+1≤15 by decide) rfl rfl rfl rfl (by kernel_rfl) rfl rfl ?_);intro w6 S6 gi h6;have f6:=Zap l5 gi m5;have R6:=R5.fr f6 (fun k e=>by injection e;omega);have F6:=F5.store m5 gi h6 (show 6+1≤15 by decide);have S6:=S6.putTa (xs:=QL);have s9:=Za3 gf f6 Z;have gu:=Za3 gd f6 ha;have rsd6:=rsd5.mono f6.view;have rb6:=rb5.mono Ze f6.view;have rp6:=rp5.mono Ze f6.view;have l6:=f6.lim;clear S5 R5 F5 gi h6 f6 f5 rsd5 rb5 rp5 rsd4 rb4 rp4 gf gd hf hj F4 l4 l5 row4 row5 S4 R4;go_upto_region 6 with fail;have P6:PSt i tb g off o w gh gb h (.slice bA h.batches.length bc) (.slice pA h.parents.length pc) (.slice sA QS.digest.length sc) QS {kept n (offM h)with table:=QL } _ o5 w6:=⟨l6,m5,S6,R6,F6,ha,gu,Z,s9,rb6,rp6,rsd6⟩;clear S6 R6 F6 gu s9 rb6 rp6 rsd6 l6 Z ha;refine Zt (fun w'=>Below w6.heap.size w6 w') (fun w'=>w'.cell? ⟨gb,2,none⟩=some (.slice sA QS.digest.length sc)∧w'.cell? ⟨g,off,none⟩=some (.int .i64 n.me)) [] (.q 0 (.q 1 (.q 2 (.q 3 (.q 4 (.q 5 (.q 6 (.q 7 (.q 8 (.q 10 (.q 11 (.alt 9 (.l 12 (.q 13 (.q 14 (.l 15 (.q 16 (.q 17 (.l 18 .nil))))))) 12 (.q 13 (.q 14 (.alt 9 (.l 15 (.q 16 (.q 17 (.l 18 .nil)))) 15 (.l 9 (.q 16 (.q 17 (.l 18 .nil))))))))))))))))))) ?_ ?_
    ·exact⟨Zad _,(P6.below (Zad _)).cells rfl⟩
    intro w7 sr ao;have P7:=P6.below sr;obtain⟨o7,a8⟩:∃x,x=o5:=⟨_,rfl⟩;subst a8;clear P6
    repeat((first|refine pq (h:=⟨_,fun w' f=>by(have z1:=f.1;have z2:=f.2;go_simp;exact rfl),?_⟩)|refine Zq ?_);simp only[sx])
    refine Zcm ?_ ?_
    ·skip
     refine Zd fun K a=>?_
     try simp only[sy]
     go_simp;have P8:=P7.lit hi (.cells #[.int .i64 n.me] 3);have L8:=Blk.new w7 3 #[.int .i64 n.me];have M8:=Zc9 o7 w7.heap.size (some (i,4));obtain⟨o8,sf⟩:∃x,x=mark o7 w7.heap.size (some (i,4)):=⟨_,rfl⟩;rw[←sf]at P8 M8;obtain⟨w8,gw⟩:∃x:World,x=w7.alloc (.cells #[.int .i64 n.me] 3):=⟨_,rfl⟩;rw[←gw]at P8 L8⊢;refine a.out _ _ (P8.cells rfl) fun f=>?_
     clear a K
     try simp only[sx]
     repeat(refine Zq ?_;simp only[sx])
     clear sf gw;refine Zd fun K a=>?_
     try simp only[sy]
     refine Sec.wp_store P8.S (i:=8) [.pointer (some ⟨gh,0,none⟩)] (show 8+1≤15 by decide) rfl rfl rfl (by kernel_rfl) rfl rfl ?_;intro w9 S9 V h9;have P9:=P8.store hi (S9.putOw (xs:=some h)) V h9 (show 8+1≤15 by decide) (fun r=>r.setOw (P8.own_ok.mono (Zap P8.l V P8.m).view));refine a.out _ _ (P9.cells rfl) fun f=>?_
     clear a K
     try simp only[sx]
     repeat(refine Zq ?_;simp only[sx])
     have L9:=L8.grown V (by intro e;injection e with e;rw[e,P8.m]at M8;injection M8 with M8;injection M8 with M8 _;omega);have M9:=M8;refine Zd fun K a=>?_
     try simp only[sy]
     refine Sec.wp_store P9.S (i:=9) [.slice sA QS.digest.length sc] (show 9+1≤15 by decide) rfl rfl rfl (by kernel_rfl) rfl rfl ?_;intro w10 S10 y g5;have P10:=P9.store hi (S10.putMi (xs:=QS.digest)) y g5 (show 9+1≤15 by decide) (fun r=>r.setMi (P9.rs.mono (Zap P9.l y P9.m).view));refine a.out _ _ (P10.cells rfl) fun f=>?_
     clear a K
     try simp only[sx]
     repeat(refine Zq ?_;simp only[sx])
     have L10:=L9.grown y (by intro e;injection e with e;rw[e,P9.m]at M9;injection M9 with M9;injection M9 with M9 _;omega);have M10:=M9;refine Zd fun K a=>?_
     try simp only[sy]
     refine Sec.wp_store P10.S (i:=10) [.slice (some ⟨w7.heap.size,0,none⟩) 1 1] (show 10+1≤15 by decide) rfl rfl rfl (by kernel_rfl) rfl rfl ?_;intro w15 S15 j X;have L15:=L10.grown j (by intro e;injection e with e;rw[e,P10.m]at M10;injection M10 with M10;injection M10 with M10 _;omega);have M15:=M10;have P15:=P10.store hi (S15.putVo (xs:=[n.me])) j X (show 10+1≤15 by decide) (fun r=>r.setVo (Zoo L15 M15));refine a.out _ _ (P15.cells rfl) fun f=>?_
     clear a K
     try simp only[sx]
     repeat(refine Zq ?_;simp only[sx])
     refine Zai ?_;have N15:NodeAt o8 w15 i tb g off {kept n (offM h)with table:=QL,own:=some h,mine:=QS.digest,voters:=[n.me] }:=⟨P15.m,_,P15.S,P15.R⟩;have c0:=P15.H.cell 0;have c1:=P15.H.cell 1;have c2:=P15.H.cell 2;have c3:=P15.H.cell 3;simp at c0 c1 c2 c3;have F15:=P15.F;have l15:=P15.l;have rb15:=P15.rb;have rp15:=P15.rp;clear P15 P8 P9 P10;go_wp2_with fail;refine(Zid i tb g off _ (offM h) _ _ _ _ _ _ _ _ _ l15 hi N15 (Zim rb15 rp15) (fun s hs=>by cases hs) H4.out).mono ?_;rintro e w16 ⟨rfl,o16,F16,N16⟩;rw[←gg.out]at N16;go_wp2;go_end0;exact⟨rfl,o16,F15.trans F16,N16⟩
    ·skip
     refine Zd fun K a=>?_
     try simp only[sy]
     refine Sec.wp_store P7.S (i:=8) [.pointer (some ⟨gh,0,none⟩)] (show 8+1≤15 by decide) rfl rfl rfl (by kernel_rfl) rfl rfl ?_;intro w8 S8 gs h8;have P8:=P7.store hi (S8.putOw (xs:=some h)) gs h8 (show 8+1≤15 by decide) (fun r=>r.setOw (P7.own_ok.mono (Zap P7.l gs P7.m).view));refine a.out _ _ (P8.cells rfl) fun f=>?_
     clear a K
     try simp only[sx]
     repeat(refine Zq ?_;simp only[sx])
     refine Zcm ?_ ?_
     ·skip
      refine Zd fun K a=>?_
      try simp only[sy]
      go_simp;have P9:=P8.lit hi (.cells #[.int .i64 n.me] 3);have L9:=Blk.new w8 3 #[.int .i64 n.me];have M9:=Zc9 o7 w8.heap.size (some (i,4));obtain⟨o9,s2⟩:∃x,x=mark o7 w8.heap.size (some (i,4)):=⟨_,rfl⟩;rw[←s2]at P9 M9;obtain⟨w9,s8⟩:∃x:World,x=w8.alloc (.cells #[.int .i64 n.me] 3):=⟨_,rfl⟩;rw[←s8]at P9 L9⊢;refine a.out _ _ (P9.cells rfl) fun f=>?_
      clear a K
      try simp only[sx]
      repeat(refine Zq ?_;simp only[sx])
      clear s2 s8;refine Zd fun K a=>?_
      try simp only[sy]
      refine Sec.wp_store P9.S (i:=9) [.slice sA QS.digest.length sc] (show 9+1≤15 by decide) rfl rfl rfl (by kernel_rfl) rfl rfl ?_;intro w10 S10 y g5;have P10:=P9.store hi (S10.putMi (xs:=QS.digest)) y g5 (show 9+1≤15 by decide) (fun r=>r.setMi (P9.rs.mono (Zap P9.l y P9.m).view));refine a.out _ _ (P10.cells rfl) fun f=>?_
      clear a K
      try simp only[sx]
      repeat(refine Zq ?_;simp only[sx])
      have L10:=L9.grown y (by intro e;injection e with e;rw[e,P9.m]at M9;injection M9 with M9;injection M9 with M9 _;omega);have M10:=M9;refine Zd fun K a=>?_
      try simp only[sy]
      refine Sec.wp_store P10.S (i:=10) [.slice (some ⟨w8.heap.size,0,none⟩) 1 1] (show 10+1≤15 by decide) rfl rfl rfl (by kernel_rfl) rfl rfl ?_;intro w15 S15 j X;have L15:=L10.grown j (by intro e;injection e with e;rw[e,P10.m]at M10;injection M10 with M10;injection M10 with M10 _;omega);have M15:=M10;have P15:=P10.store hi (S15.putVo (xs:=[n.me])) j X (show 10+1≤15 by decide) (fun r=>r.setVo (Zoo L15 M15));refine a.out _ _ (P15.cells rfl) fun f=>?_
      clear a K
      try simp only[sx]
      repeat(refine Zq ?_;simp only[sx])
      refine Zai ?_;have N15:NodeAt o9 w15 i tb g off {kept n (offM h)with table:=QL,own:=some h,mine:=QS.digest,voters:=[n.me] }:=⟨P15.m,_,P15.S,P15.R⟩;have c0:=P15.H.cell 0;have c1:=P15.H.cell 1;have c2:=P15.H.cell 2;have c3:=P15.H.cell 3;simp at c0 c1 c2 c3;have F15:=P15.F;have l15:=P15.l;have rb15:=P15.rb;have rp15:=P15.rp;clear P15 P8 P9 P10;go_wp2_with fail;refine(Zid i tb g off _ (offM h) _ _ _ _ _ _ _ _ _ l15 hi N15 (Zim rb15 rp15) (fun s hs=>by cases hs) H4.out).mono ?_;rintro e w16 ⟨rfl,o16,F16,N16⟩;rw[←gg.out]at N16;go_wp2;go_end0;exact⟨rfl,o16,F15.trans F16,N16⟩
     ·skip
      refine Zd fun K a=>?_
      try simp only[sy]
      refine Sec.wp_store P8.S (i:=9) [.slice sA QS.digest.length sc] (show 9+1≤15 by decide) rfl rfl rfl (by kernel_rfl) rfl rfl ?_;intro w9 S9 V h9;have P9:=P8.store hi (S9.putMi (xs:=QS.digest)) V h9 (show 9+1≤15 by decide) (fun r=>r.setMi (P8.rs.mono (Zap P8.l V P8.m).view));refine a.out _ _ (P9.cells rfl) fun f=>?_
      clear a K
      try simp only[sx]
      repeat(refine Zq ?_;simp only[sx])
      refine Zd fun K a=>?_
      try simp only[sy]
      go_simp;have P10:=P9.lit hi (.cells #[.int .i64 n.me] 3);have L10:=Blk.new w9 3 #[.int .i64 n.me];have M10:=Zc9 o7 w9.heap.size (some (i,4));obtain⟨o10,g2⟩:∃x,x=mark o7 w9.heap.size (some (i,4)):=⟨_,rfl⟩;rw[←g2]at P10 M10;obtain⟨w10,g4⟩:∃x:World,x=w9.alloc (.cells #[.int .i64 n.me] 3):=⟨_,rfl⟩;rw[←g4]at P10 L10⊢;refine a.out _ _ (P10.cells rfl) fun f=>?_
      clear a K
      try simp only[sx]
      repeat(refine Zq ?_;simp only[sx])
      clear g2 g4;refine Zd fun K a=>?_
      try simp only[sy]
      refine Sec.wp_store P10.S (i:=10) [.slice (some ⟨w9.heap.size,0,none⟩) 1 1] (show 10+1≤15 by decide) rfl rfl rfl (by kernel_rfl) rfl rfl ?_;intro w15 S15 j X;have L15:=L10.grown j (by intro e;injection e with e;rw[e,P10.m]at M10;injection M10 with M10;injection M10 with M10 _;omega);have M15:=M10;have P15:=P10.store hi (S15.putVo (xs:=[n.me])) j X (show 10+1≤15 by decide) (fun r=>r.setVo (Zoo L15 M15));refine a.out _ _ (P15.cells rfl) fun f=>?_
      clear a K
      try simp only[sx]
      repeat(refine Zq ?_;simp only[sx])
      refine Zai ?_;have N15:NodeAt o10 w15 i tb g off {kept n (offM h)with table:=QL,own:=some h,mine:=QS.digest,voters:=[n.me] }:=⟨P15.m,_,P15.S,P15.R⟩;have c0:=P15.H.cell 0;have c1:=P15.H.cell 1;have c2:=P15.H.cell 2;have c3:=P15.H.cell 3;simp at c0 c1 c2 c3;have F15:=P15.F;have l15:=P15.l;have rb15:=P15.rb;have rp15:=P15.rp;clear P15 P8 P9 P10;go_wp2_with fail;refine(Zid i tb g off _ (offM h) _ _ _ _ _ _ _ _ _ l15 hi N15 (Zim rb15 rp15) (fun s hs=>by cases hs) H4.out).mono ?_;rintro e w16 ⟨rfl,o16,F16,N16⟩;rw[←gg.out]at N16;go_wp2;go_end0;exact⟨rfl,o16,F15.trans F16,N16⟩
end Fl
end Go.Proofs.YtbcpbnfojfiekaaGreatDoor
