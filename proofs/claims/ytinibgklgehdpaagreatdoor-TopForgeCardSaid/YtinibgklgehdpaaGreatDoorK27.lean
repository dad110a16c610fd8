/- A part of what the last text stands on. -/
import Derived.Test.YtinibgklgehdpaaGreatDoorK16
import Derived.Test.YtinibgklgehdpaaGreatDoorK26
namespace Go.Proofs.YtinibgklgehdpaaGreatDoor
open Go.ChangeShapes Go.WideShapes Go.ChangeAt Go.RowKit Qa Qb Qc
set_option linter.all false
set_option maxHeartbeats 20000000
set_option maxRecDepth 100000
variable{w w':World}{k g b:Nat}
theorem Zlb(vl:Value)(l:List Crt)(r:Int)(w:World)(hl:RCrts w.cell? vl l)(hT:Tabs w.cell?) :
 Calls Tryz.prog 20 #[.agg #[vl],.int .i64 r] w fun e w'=>∃d,e=.returned (.tuple #[d,.int .i64 (dagF hD cF l)])∧Below w.heap.size w w'∧RDigs (View.from w'.cell? w.heap.size) d (digV l r):=by
 obtain⟨A,c,rfl,hform⟩:=id hl;clear hform;obtain⟨E,hE⟩:∃q,Hid (dagF hD cF l=q):=⟨_,rfl⟩;obtain⟨V,hV⟩:∃q,Hid (digV l r=q):=⟨_,rfl⟩;have HV:Hid (V=if E=0 then dsOf hD (Zbu l r)else []):=by show _=_;rw[←hV.out];unfold digV;rw[hE.out]
 have Hlone:Hid (E=0→Lone l∧Auth l∧l.length≤400∧(∀c∈l,hF c.hdr=0)):=fun h=>Zn0 (hE.out.trans h)
 rw[hV.out,hE.out];clear hV
 go_enter Tryz.func20,Tryz.ntmps20
 go_upto_region 1 with fail
 refine Zo fun W hk hsz hbW=>?_
 clear hsz;have hzW:=hbW.size;have g0:=hk.cell 0;simp at g0
 go_wp2_with fail
 refine(Zfb _ l _ (hl.mono RCrt.mono (Zaa hbW)) (hT.mono (Zaa hbW))).mono ?_;rintro e w1 ⟨rfl,hb1⟩;rw[hE.out];have hbl1:=hbW.trans (hb1.mono hzW);have hz1:=hbl1.size;have hk1:=hk.kept hb1;clear g0 hE
 by_cases h0:E=0
 rotate_left
 ·have HQ:Hid (V=[]):=by show _=_;rw[HV.out,if_neg h0]
  clear HV Hlone;go_wp2;go_ret2;exact⟨_,rfl,hbl1,by rw[HQ.out];exact RDigs.nil _⟩
 have HQ:Hid (V=dsOf hD (Zbu l r)):=by show _=_;rw[HV.out,if_pos h0]
 have HL:=Lib.hid (Hlone.out h0);clear HV Hlone;subst h0;have g0:=hk1.cell 0;simp at g0
 go_wp2_with fail
 refine(Zph _ l r _ (hl.mono RCrt.mono (Zaa hbl1)) HL.out.1 HL.out.2.1 HL.out.2.2.1).mono ?_;rintro e w2 ⟨v2,rfl,hb2,r2⟩;have hbl2:=hbl1.trans (hb2.mono hz1);have hz2:=hbl2.size;have HR:Hid ((Zbu l r).length≤4∧∀c∈Zbu l r,hF c.hdr=0):=⟨Ztr l r,fun c hc=>HL.out.2.2.2 c (List.mem_filter.1 ((Zhj HL.out.1 HL.out.2.1).1 hc)).1⟩;generalize Zbu l r=R at r2 HQ HR;obtain⟨A2,c2,rfl,hf⟩:=id r2;obtain⟨_,hm1,hm2,hel⟩:=RCrts.at r2;have Hel:=Lib.hid hel;clear hel hf g0 hk1 hk;have hR4:=HR.out.1
 go_wp2_with fail
 go_loopw [7,9,20] (fun v _ i wr=>∃k:Nat,k≤R.length∧i=.int .i64 k∧OwnSl 1 (RFrom w2.heap.size RDig) 54 wr w2.heap.size v (dsOf hD (R.take k))∧Below w2.heap.size w2 wr) (fun _ _ i _=>R.length-(intOf i).toNat)
 case atStart=>exact⟨0,Nat.zero_le _,rfl,OwnSl.nil _ _ _ _ _,Below.refl _ _⟩
 case round =>
  obtain⟨k,hk,rfl,hown,hbl⟩:=hrel;have hbs:=hbl.size
  by_cases hlt:k<R.length
  ·obtain⟨b0,o0,ub,up,uv,rfl,q0,q1,q2,q3,q4,rb,rp,rv⟩:=Hel.out k hlt;have q:=Zaa hbl;have c0:=q _ _ q0;have c1:=q _ _ q1;have c2:=q _ _ q2;have c3:=q _ _ q3;have c4:=q _ _ q4;have hval:=Lib.hid (HR.out.2 R[k] (List.getElem_mem hlt));have Hn:=Lib.hid (show dsOf hD (R.take (k+1))=dsOf hD (R.take k)++[hD R[k].hdr] by unfold dsOf;rw[List.take_succ_eq_append_getElem hlt,List.map_append,List.map_singleton]);have Hlk:=Lib.hid (show(dsOf hD (R.take k)).length≤4 by unfold dsOf;simp;omega);obtain⟨E1A,E1c,rfl,hg1⟩:=id rb;obtain⟨E2A,E2c,rfl,hg2⟩:=id rp;obtain⟨E3A,E3c,rfl,hg3⟩:=id rv;have rb':=rb.mono RDig.mono q;have rp':=rp.mono RDig.mono q;clear q0 q1 q2 q3 q4 rb rp rv hg1 hg2 hg3;generalize dsOf hD (R.take k)=L at hown Hn Hlk;generalize R[k]=x at *
   go_upto_region 8 with fail
   refine Zo fun W3 hX hsX hbX=>?_
   have hbX2:=hbl.trans (hbX.mono hbs);have hlto:=hown.lt;have x0:=hX.cell 0;have x1:=hX.cell 1;have x2:=hX.cell 2;have x3:=hX.cell 3;have x4:=hX.cell 4;simp at x0 x1 x2 x3 x4;have qX:=Zaa hbX;have hzX:=hbX.size;clear hsX c0 c1 c2 c3 c4
   go_wp2_with fail
   refine(Zmv x _ _ _ _ (rb'.mono RDig.mono qX) (rp'.mono RDig.mono qX) (hT.mono (Zaa (hbl2.trans (hbX2.mono hz2))))).mono ?_;rintro e w4 ⟨d,rfl,hb4,hr⟩;rw[Zk1 hval.out]at hr;have hown4:=(hown.kept (RFrom.mono RDig.mono) hbX).kept (RFrom.mono RDig.mono) hb4;have hbl4:=hbX2.trans (hb4.mono hbX2.size)
   have hR:RFrom w2.heap.size RDig (View.but w4.cell? u7.ownBlock) [d] (hD x.hdr) :=
    ⟨d,rfl,hr.mono (Zbb (by have:=hbX2.size;omega) (fun g hg=>by have:=(hlto g hg).2;omega))⟩
   obtain⟨A',c',rfl,hform⟩:=id hr;clear hform x0 x1 x2 x3 x4 rb' rp' hr hown
   go_wp2_with (at_builtin;go_loud (refine Za2 (n:=140737488355328) (RFrom.mono RDig.mono) (hD x.hdr) [.slice A' (hD x.hdr).length c'] Zez _ _ rfl rfl rfl hown4 hbl4 hbl4.size rfl rfl rfl rfl hR (Nat.le_refl _) (by have:=Hlk.out;omega) (by have:=Hlk.out;omega) ?_))
   intro v' w5 ho hbl5 _;rw[←Hn.out]at ho;clear hown4 hR;go_wp2;go_roundw
   case rel=>exact⟨k+1,by omega,by go_num,ho,hbl5⟩
   case measure=>simp[intOf];omega
  ·have hkl:k=R.length:=by omega
   rw[hkl,List.take_length,←HQ.out]at hown;have hVl:V.length≤4:=by rw[HQ.out,Zgx];exact HR.out.1
   have rV:=(hown.reads_from (bs:=24) RDig.mono (by omega)).mono RDig.mono (Zbm (b':=w.heap.size) (by omega));obtain⟨A3,c3,rfl,hf⟩:=id rV;clear hf hown hkl HQ;go_wp2;go_ret2;exact⟨_,rfl,hbl2.trans (hbl.mono hz2),rV⟩
namespace Fl
theorem Zmc{o:Own}{t:Nat×Nat}(hg:w.grownBy w' (some b)):VLe (Zas (mark o b (some t)) w) (Zas o w'):=fun a v e=>by
 unfold Zas at e⊢
 split at e
 ·cases e
 ·rename_i hn
  have hab:a.block≠b:=fun h=>by rw[h,Zc7]at hn;exact hn rfl
  rw[Zbz _ _ hab]at hn
  rw[if_neg hn]
  exact hg.cell e (by intro h;injection h with h;exact hab h)
theorem Zv4{o:Own}{t:Nat×Nat}(hg:w.grownBy w' (some b)):VLe (Zas (mark o b (some t)) w) (Zas (mark o b (some t)) w'):=fun a v e=>by
 unfold Zas at e⊢
 split at e
 ·cases e
 ·rename_i hn
  have hab:a.block≠b:=fun h=>by rw[h,Zc7]at hn;exact hn rfl
  rw[if_neg hn]
  exact hg.cell e (by intro h;injection h with h;exact hab h)
theorem Znl{o:Own}{t:Nat×Nat}{me:Int}(hb:Blk w g 3 #[.int .i64 me])(ho:o g=some t):Row o t 1 RI 3 w (.slice (some ⟨g,0,none⟩) 1 1) [me]:=by
 have h:OwnVec (fun n:Int=>Value.int .i64 n) 3 w 0 (.slice (some ⟨g,0,none⟩) 1 1) [me]:=OwnVec.lit (by simpa using hb) (Nat.zero_le _) rfl (by decide);refine⟨⟨[[.int .i64 me]],by simpa using h.own,rfl,fun i hi=>?_⟩,fun g' hg'=>?_⟩
 ·have:i=0:=by simpa using hi
  subst this;exact⟨_,rfl,rfl,rfl⟩
 ·injection hg' with hg';rw[←hg'];exact ho
structure PSt (i tb g off:Nat) (o0:Own) (w0:World) (gh gb:Nat) (h:Hdr) (vb vp sd:Value) (s:Slot) (n:Nd) (v:Vals) (o:Own) (w:World):Prop where
 l:Lim o w
 m:o g=some (8,tb)
 S:Sec w g off (ndC n v)
 R:NdR o w i n v
 F:NFr i tb g off o0 w0 o w
 hn:o gh=none
 H:Blk w gh 51 #[.int .i64 h.author,.int .i64 h.round,vb,vp]
 bn:o gb=none
 B:Blk w gb 61 #[.int .i64 s.author,.int .i64 s.round,sd]
 rb:RDigs (Zas o w) vb h.batches
 rp:RDigs (Zas o w) vp h.parents
 rs:Zao (Zas o w) sd s.digest
section
variable {i tb g off:Nat} {o0 o:Own} {w0 w w':World} {gh gb:Nat} {h:Hdr} {vb vp sd:Value} {s:Slot} {n n':Nd} {v v':Vals}
theorem PSt.below(P:PSt i tb g off o0 w0 gh gb h vb vp sd s n v o w)(hb:Below w.heap.size w w'):PSt i tb g off o0 w0 gh gb h vb vp sd s n v o w':=by
 have f:=Fr.of_below (T:=fun _=>False) P.l hb;exact⟨f.lim,P.m,P.S.fr f P.m (fun h=>h),P.R.fr f (fun _ h=>h),P.F.below hb,P.hn,P.H.kept hb,P.bn,P.B.kept hb,P.rb.mono RDig.mono f.view,P.rp.mono RDig.mono f.view,P.rs.mono f.view⟩
theorem PSt.lit(P:PSt i tb g off o0 w0 gh gb h vb vp sd s n v o w)(hi:i<5)(x:Obj):PSt i tb g off o0 w0 gh gb h vb vp sd s n v (mark o w.heap.size (some (i,4))) (w.alloc x):=by
 have f:=Fr.alloc_mark (T:=fun _=>False) P.l x (some (i,4)) (fun k hk=>by injection hk with hk;injection hk;omega);have ne:∀b,b<w.heap.size→b≠w.heap.size:=fun b hb=>by omega
 exact⟨f.lim,by rw[Zbz _ _ (ne _ P.S.lt)];exact P.m,P.S.fr f P.m (fun h=>h),P.R.fr f (fun _ h=>h),P.F.step P.m f (fun _ h=>h.elim) (by omega),by rw[Zbz _ _ (ne _ P.H.lt)];exact P.hn,P.H.alloc _,by rw[Zbz _ _ (ne _ P.B.lt)];exact P.bn,P.B.alloc _,P.rb.mono RDig.mono f.view,P.rp.mono RDig.mono f.view,P.rs.mono f.view⟩
theorem PSt.store(P:PSt i tb g off o0 w0 gh gb h vb vp sd s n v o w)(hi:i<5){m:Nat}(hS:Sec w' g off (ndC n' v'))(hg:w.grownBy w' (some g))(hw:Only w w' g (off+k) m)(hk:k+m≤15)(hR:NdR o w' i n v→NdR o w' i n' v'):PSt i tb g off o0 w0 gh gb h vb vp sd s n' v' o w':=by
 have f:=Zaq P.l hg P.m;exact⟨f.lim,P.m,hS,hR (P.R.fr f (fun k e=>by injection e;omega)),P.F.store P.m hg hw hk,P.hn,Za3 P.H f P.hn,P.bn,Za3 P.B f P.bn,P.rb.mono RDig.mono f.view,P.rp.mono RDig.mono f.view,P.rs.mono f.view⟩
theorem PSt.cells(P:PSt i tb g off o0 w0 gh gb h vb vp sd s n v o w){me:Int}(hm:n.me=me):w.cell? ⟨gb,2,none⟩=some sd∧w.cell? ⟨g,off,none⟩=some (.int .i64 me):=by
 refine⟨?_,by rw[←hm];exact P.S.nd0⟩;have:=P.B.cell 2;simpa using this
theorem PSt.own_ok(P:PSt i tb g off o0 w0 gh gb h vb vp sd s n v o w):ROwn (Zas o w) (.pointer (some ⟨gh,0,none⟩)) (some h):=by
 have c:∀j,Zas o w ⟨gh,j,none⟩=w.cell? ⟨gh,j,none⟩:=fun j=>by unfold Zas;rw[if_neg (by rw[P.hn];simp)]
 refine⟨gh,vb,vp,rfl,?_,?_,?_,?_,P.rb,P.rp⟩
 ·rw[c];have:=P.H.cell 0;simpa using this
 ·rw[c];have:=P.H.cell 1;simpa using this
 ·rw[c];have:=P.H.cell 2;simpa using this
 ·rw[c];have:=P.H.cell 3;simpa using this
end
theorem Zkt(i tb g off:Nat)(n:Nd)(round:Int)(o:Own)(w:World)(hl:Lim o w)(hi:i<5)(hN:NodeAt o w i tb g off n)(hT:Tabs (Zas o w))(hr0:0≤round)(hr1:round≤140737488355328)(h4:n.out.length≤400)(ht4:n.table.length≤400)(h8:n.digs.length≤800)(hbd:n.digs.length=n.bats.length) :
 Calls Tryz.prog 157 #[.pointer (some ⟨g,off,none⟩),.int .i64 round] w fun e w'=>e=.returned (.tuple #[])∧∃o',NFr i tb g off o w o' w'∧NodeAt o' w' i tb g off (propose n round):=by
 obtain⟨QR,hQR⟩:∃q,Hid (propose n round=q):=⟨_,rfl⟩;obtain⟨LB,hLB⟩:∃q,Hid (Zxk n=q):=⟨_,rfl⟩;obtain⟨LP,hLP⟩:∃q,Hid ((if 1<round then digV n.dag (round-1)else [])=q):=⟨_,rfl⟩;have hH:Hid (Zd1 n round=⟨n.me,round,LB,LP⟩):=by show _=_;unfold Zd1;rw[hLB.out,hLP.out]
 have HQ:Hid (QR=if Ze2 n.table ⟨n.me,round,LB,LP⟩≠0∨Zfg n (offM ⟨n.me,round,LB,LP⟩)≠0 then n
  else tell {kept n (offM ⟨n.me,round,LB,LP⟩)with table:=Zc4 n.table ⟨n.me,round,LB,LP⟩,own:=some ⟨n.me,round,LB,LP⟩,mine:=(Zcy n.table ⟨n.me,round,LB,LP⟩).digest,voters:=[n.me] } (offM ⟨n.me,round,LB,LP⟩)):=by
  show _=_;rw[←hQR.out];unfold propose;rw[hH.out]
 rw[hQR.out];clear hQR hH;have H4:=Lib.hid h4;have Ht4:=Lib.hid ht4;have H8:=Lib.hid h8;have HB:=Lib.hid hbd;clear h4 ht4 h8 hbd;obtain⟨hmk,⟨vtx,vba,vdi,vta,vda,vow,vmi,vvo,vtp,vou⟩,S0,R0⟩:=id hN;have s0:=S0.nd0;have s7:=S0.nd7;simp only at s0 s7;have rda:RCrts w.cell? vda n.dag:=R0.da.mono RCrt.mono (Zag _ _);obtain⟨daA,dac,hda,_⟩:=id rda;have hda:vda=.slice daA n.dag.length dac:=hda;subst hda;clear S0 R0 hmk
 go_enter Tryz.func157,Tryz.ntmps157
 go_upto_region 0 with fail
 go_cut [4] (fun p w'=>∃gh bA bc,p=.pointer (some ⟨gh,0,none⟩)∧w.heap.size≤gh∧Blk w' gh 51 #[.int .i64 n.me,.int .i64 round,.slice bA LB.length bc,.slice none 0 0]∧Below w.heap.size w w'∧RDigs (Zas (mark o gh (some (7,gh))) w') (.slice bA LB.length bc) LB)
 case first =>
  refine Zr [9] (.q 0 (.q 1 (.q 2 (.q 3 (.q 4 (.q 5 (.alt 6 (.q 7 (.l 8 (.l 9 .nil))) 8 (.l 6 (.q 7 (.l 9 .nil)))))))))) fun W3 hS3=>?_
  repeat((first|refine pq (h:=⟨_,fun w' hS=>by(have h1:=Zaa hS _ _ s0;go_simp;exact rfl),?_⟩)|refine Zq ?_);simp only[sx])
  refine Zcl ?_ ?_
  ·refine Zd fun K hK=>?_
   try simp only[sy]
   go_simp;refine(Zo5 i tb g off n o _ (Zam hl hS3) (hN.below hl hS3) H8.out HB.out).mono ?_;rintro e w5 ⟨v5,rfl,hb5,rv5⟩;rw[hLB.out]at rv5;have hS5:=hS3.trans (hb5.mono hS3.size);have hz5:=hS5.size;obtain⟨A5,c5,rfl,hf5⟩:=id rv5;clear hf5;refine hK.out _ _ (hS5) fun hS=>?_
   clear hK K
   try simp only[sx]
   repeat(refine Zq ?_;simp only[sx])
   refine Zd fun K hK=>?_
   try simp only[sy]
   go_simp;have hn6:=Blk.new w5 51 #[.int .i64 0,.int .i64 0,.slice none 0 0,.slice none 0 0];have hb6:=Zac w5 (.cells #[.int .i64 0,.int .i64 0,.slice none 0 0,.slice none 0 0] 51);refine hK.out _ _ (hS5.trans (hb6.mono hz5)) fun hS=>?_
   clear hK K
   try simp only[sx]
   refine Zd fun K hK=>?_
   try simp only[sy]
   refine Zh 4 hn6 ?_;intro w7 hB7 hg7;have hb57:Below w5.heap.size w5 w7:=Zab hb6 hb6.size hg7 (by intro k e;injection e;omega);refine hK.out _ _ (hS5.trans (hb57.mono hz5)) fun hS=>?_
   clear hK K
   try simp only[sx]
   repeat(refine Zq ?_;simp only[sx])
   refine Zah ?_
   go_wp2_with fail
   go_meet;exact⟨_,A5,c5,rfl,hz5,hB7,hS5.trans (hb57.mono hz5),rv5.mono RDig.mono (Zvk (T:=fun _=>False) (Zam hl hS5) hb57 hB7.lt).view⟩
  ·refine Zd fun K hK=>?_
   try simp only[sy]
   go_simp;have hn6:=Blk.new W3 51 #[.int .i64 0,.int .i64 0,.slice none 0 0,.slice none 0 0];have hb6:=Zac W3 (.cells #[.int .i64 0,.int .i64 0,.slice none 0 0,.slice none 0 0] 51);have hS6:=hS3.trans (hb6.mono hS3.size);have hz3:=hS3.size;have hz66:W3.heap.size<(W3.alloc (.cells #[.int .i64 0,.int .i64 0,.slice none 0 0,.slice none 0 0] 51)).heap.size:=by simp
   refine hK.out _ _ (hS6) fun hS=>?_
   clear hK K
   try simp only[sx]
   repeat(refine Zq ?_;simp only[sx])
   refine Zd fun K hK=>?_
   try simp only[sy]
   go_simp;have f6:=Zvk (T:=fun _=>False) (Zam hl hS3) hb6 hz66;refine(Zo5 i tb g off n _ _ f6.lim ((hN.below hl hS3).fr f6 (fun _ h=>h) (fun h=>h)) H8.out HB.out).mono ?_;rintro e w5 ⟨v5,rfl,hb5,rv5⟩;rw[hLB.out]at rv5;have hS5:=hS6.trans (hb5.mono hS6.size);have hn7:=hn6.kept hb5;obtain⟨A5,c5,rfl,hf5⟩:=id rv5;clear hf5;refine hK.out _ _ (hS5) fun hS=>?_
   clear hK K
   try simp only[sx]
   repeat(refine Zq ?_;simp only[sx])
   refine Zd fun K hK=>?_
   try simp only[sy]
   refine Zh 4 hn7 ?_;intro w7 hB7 hg7;have hS7:Below w.heap.size w w7:=Zab hS5 hS5.size hg7 (by intro k e;injection e;omega);refine hK.out _ _ (hS7) fun hS=>?_
   clear hK K
   try simp only[sx]
   repeat(refine Zq ?_;simp only[sx])
   refine Zah ?_
   go_wp2_with fail
   go_meet;exact⟨_,A5,c5,rfl,hz3,hB7,hS7,rv5.mono RDig.mono (Zv4 hg7)⟩
 case rest =>
  obtain⟨gh,bA,bc,rfl,hgh,hBh,hbc,rlb⟩:=hcut;obtain⟨w1,hw1⟩:∃w1:World,w1=wc:=⟨_,rfl⟩;subst hw1;have l1:=Zam hl hbc;have N1:=hN.below hl hbc;have T1:=hT.mono (Zae hl hbc);have hz1:=hbc.size;have rda1:=rda.mono RCrt.mono (Zaa hbc);have y7:=Zaa hbc _ _ s7;clear s0 s7 rda;obtain⟨QB,hQB⟩:∃q,Hid (decide (1<round)=q):=⟨_,rfl⟩
  go_upto_if 17 with fail
  go_cut [18] (fun _ w'=>∃pA pc,Blk w' gh 51 #[.int .i64 n.me,.int .i64 round,.slice bA LB.length bc,.slice pA LP.length pc]∧Below w.heap.size w w'∧RDigs (Zas o w') (.slice bA LB.length bc) LB∧RDigs (Zas o w') (.slice pA LP.length pc) LP)
  case first =>
   have hT1:Tabs w1.cell?:=T1.mono (Zag _ _)
   by_cases hr:1<round
   ·have hLP1:Hid (digV n.dag (round-1)=LP):=by show _=_;rw[←hLP.out,if_pos hr]
    obtain⟨r1,hr1'⟩:∃z:Int,z=round-1:=⟨_,rfl⟩;have hw1:IntKind.i64.wrap (round-1)=r1:=by rw[IntKind.wrap_i64];omega
    rw[←hr1']at hLP1;clear hr1'
    go_wp2_with fail
    refine(Zlb _ n.dag r1 _ rda1 hT1).mono ?_;rintro e w2 ⟨d,rfl,hb2,rd⟩;rw[hLP1.out]at rd;obtain⟨pA,pc,rfl,hfp⟩:=id rd;clear hfp;have hBh2:=hBh.kept hb2;have hbc2:=hbc.trans (hb2.mono hz1)
    go_wp2_with (refine Zai (n:=1) rfl rfl rfl rfl (by kernel_rfl) rfl hBh2 (by simp) rfl ?_)
    intro w3 hB3 hg3
    go_wp2_with fail
    go_meet;have hbc3:Below w.heap.size w w3:=Zab hbc2 hbc2.size hg3 (by intro k e;injection e;omega);have hlt1:=hBh.lt;have hfrom:=Zi5 hg3 hlt1;exact⟨pA,pc,hB3,hbc3,rlb.mono RDig.mono (Zmc (Zaf (Zak _ hb2) hg3)),rd.mono RDig.mono (hfrom.trans ((Zbm (b':=w.heap.size) (by omega)).trans (Zby hl)))⟩
   ·have hLP1:Hid (LP=[]):=by show _=_;rw[←hLP.out,if_neg hr]
    go_wp2_with fail
    go_meet;exact⟨none,0,by rw[hLP1.out];exact hBh,hbc,rlb.mono RDig.mono (Zmc (Zjj _ _)),by rw[hLP1.out];exact RDigs.nil _⟩
  case rest =>
   obtain⟨pA,pc,hB0,hbc0,rlb0,rlp0⟩:=hcut;obtain⟨W,hW⟩:∃W:World,W=wc:=⟨_,rfl⟩;subst hW;clear rlb hBh N1 T1 l1 rda1 y7 hz1 hLP hLB hQB;have l1:=Zam hl hbc0;have hz0:=hbc0.size;have N1:=hN.below hl hbc0;have T1:=hT.mono (Zae hl hbc0);have F1:NFr i tb g off o w o W:=(NFr.refl hl).below hbc0;obtain⟨h,hh⟩:∃h:Hdr,h=⟨n.me,round,LB,LP⟩:=⟨_,rfl⟩;rw[←hh]at HQ;have rb1:RDigs (Zas o W) (.slice bA LB.length bc) h.batches:=by rw[hh];exact rlb0
   have rp1:RDigs (Zas o W) (.slice pA LP.length pc) h.parents:=by rw[hh];exact rlp0
   have eb:Hid (LB.length=h.batches.length):=by show _=_;rw[hh]
   have ep:Hid (LP.length=h.parents.length):=by show _=_;rw[hh]
   have e1:Hid (n.me=h.author):=by show _=_;rw[hh]
   have e2:Hid (round=h.round):=by show _=_;rw[hh]
   rw[eb.out,ep.out,e1.out,e2.out]at hB0;rw[eb.out]at rb1;rw[ep.out]at rp1;obtain⟨hm1,⟨xtx,xba,xdi,xta,xda,xow,xmi,xvo,xtp,xou⟩,S1,R1⟩:=id N1;have rta1:RSlots W.cell? xta n.table:=R1.ta.reads (bs:=40) RSlot.mono (by have:=Ht4.out;omega);obtain⟨taA,tac,hta⟩:=R1.ta.form;have hta:xta=.slice taA n.table.length tac:=hta;subst hta;have s6:=S1.nd6;simp only at s6;obtain⟨QE,hQE⟩:∃q,Hid (Ze2 n.table h=q):=⟨_,rfl⟩;obtain⟨QL,hQL⟩:∃q,Hid (Zc4 n.table h=q):=⟨_,rfl⟩;obtain⟨QS,hQS⟩:∃q,Hid (Zcy n.table h=q):=⟨_,rfl⟩;rw[hQE.out,hQL.out,hQS.out]at HQ;have HH:=Lib.hid hh;clear S1 R1 rlb0 rlp0 eb ep hh
   go_upto_region 3 with fail
   go_cut [5,6,7] (fun tv p e w'=>∃gb sd tA2 tc2,tv=.slice tA2 QL.length tc2∧p=.pointer (some ⟨gb,0,none⟩)∧e=.int .i64 QE∧Blk w' gb 61 #[.int .i64 QS.author,.int .i64 QS.round,sd]∧Below W.heap.size W w'∧W.heap.size≤gb∧some gb≠(Value.slice tA2 QL.length tc2).ownBlock∧OwnSl 3 (RFrom W.heap.size RSlot) 61 w' W.heap.size (.slice tA2 QL.length tc2) QL∧Zao (View.from (View.but w'.cell? (Value.slice tA2 QL.length tc2).ownBlock) W.heap.size) sd QS.digest)
   case first =>
    refine Zr [13] (.q 0 (.q 1 (.q 2 (.q 3 (.q 4 (.alt 5 (.q 6 (.q 7 (.q 8 (.q 9 (.l 10 (.q 11 (.l 12 (.qc 13 .nil)))))))) 10 (.l 5 (.q 6 (.q 7 (.q 8 (.q 9 (.q 11 (.l 12 (.qc 13 .nil)))))))))))))) fun W3 hS3=>?_
    repeat((first|refine pq (h:=⟨_,fun w' hS=>by(have h1:=Zaa hS _ _ s6;have hx:=hB0.kept hS;have h2:=hx.cell 0;have h3:=hx.cell 1;have h4:=hx.cell 2;have h5:=hx.cell 3;simp at h2 h3 h4 h5;go_simp;exact rfl),?_⟩)|refine Zq ?_);simp only[sx])
    refine Zcl ?_ ?_
    ·refine Zd fun K hK=>?_
     try simp only[sy]
     go_simp;have q3:=Zaa hS3;refine(Zgl _ n.table h _ _ _ (rta1.mono RSlot.mono q3) ((rb1.mono RDig.mono (Zag _ _)).mono RDig.mono q3) ((rp1.mono RDig.mono (Zag _ _)).mono RDig.mono q3) ((T1.mono (Zag _ _)).mono q3)).mono ?_;rintro e w5 ⟨d5,sd,rfl,hb6,od5,rd5⟩;rw[hQE.out,hQS.out];rw[hQL.out]at od5;rw[hQS.out]at rd5;have hS5:=hS3.trans (hb6.mono hS3.size);obtain⟨A5,c5,rfl⟩:=od5.form;have hlt5:=od5.lt;obtain⟨sA,sc,rfl,hf5⟩:=id rd5;clear hf5;refine hK.out _ _ (hS5) fun hS=>?_
     clear hK K
     try simp only[sx]
     repeat(refine Zq ?_;simp only[sx])
     refine Zd fun K hK=>?_
     try simp only[sy]
     go_simp;have hn6:=Blk.new w5 61 #[.int .i64 0,.int .i64 0,.slice none 0 0];have hb66:=Zac w5 (.cells #[.int .i64 0,.int .i64 0,.slice none 0 0] 61);have hS6:=hS5.trans (hb66.mono hS5.size);have hgbW:=hS5.size;refine hK.out _ _ (hS6) fun hS=>?_
     clear hK K
     try simp only[sx]
     repeat(refine Zq ?_;simp only[sx])
     refine Zd fun K hK=>?_
     try simp only[sy]
     refine Zh 3 hn6 ?_;intro w7 hB7 hg7;have hb57:Below w5.heap.size w5 w7:=Zab hb66 hb66.size hg7 (by intro k e;injection e;omega);have hS7:Below W.heap.size W w7:=hS5.trans (hb57.mono hS5.size);have od7:=(od5.kept (RFrom.mono RSlot.mono) hb57).lower RSlot.mono hS3.size;have rd7:=(rd5.mono (Za0 _ (Zln hb57 _))).mono (Zbm (b':=W.heap.size) hS3.size);refine hK.out _ _ (hS7) fun hS=>?_
     clear hK K
     try simp only[sx]
     repeat(refine Zq ?_;simp only[sx])
     refine Zah ?_
     go_wp2_with fail
     go_meet;exact⟨_,_,A5,c5,rfl,rfl,rfl,hB7,hS7,hgbW,fun e=>by have:=(hlt5 _ e.symm).2;omega,od7,rd7⟩
    ·refine Zd fun K hK=>?_
     try simp only[sy]
     go_simp;have hn6:=Blk.new W3 61 #[.int .i64 0,.int .i64 0,.slice none 0 0];have hb66:=Zac W3 (.cells #[.int .i64 0,.int .i64 0,.slice none 0 0] 61);have hS6:=hS3.trans (hb66.mono hS3.size);have hgbW:=hS3.size;have hz66:W3.heap.size<(W3.alloc (.cells #[.int .i64 0,.int .i64 0,.slice none 0 0] 61)).heap.size:=by simp
     refine hK.out _ _ (hS6) fun hS=>?_
     clear hK K
     try simp only[sx]
     repeat(refine Zq ?_;simp only[sx])
     refine Zd fun K hK=>?_
     try simp only[sy]
     go_simp;have q3:=Zaa hS6;refine(Zgl _ n.table h _ _ _ (rta1.mono RSlot.mono q3) ((rb1.mono RDig.mono (Zag _ _)).mono RDig.mono q3) ((rp1.mono RDig.mono (Zag _ _)).mono RDig.mono q3) ((T1.mono (Zag _ _)).mono q3)).mono ?_;rintro e w5 ⟨d5,sd,rfl,hb6,od5,rd5⟩;rw[hQE.out,hQS.out];rw[hQL.out]at od5;rw[hQS.out]at rd5;have hS5:=hS6.trans (hb6.mono hS6.size);have hn7:=hn6.kept hb6;have hlt5:=od5.lt;obtain⟨A5,c5,rfl⟩:=od5.form;obtain⟨sA,sc,rfl,hf5⟩:=id rd5;clear hf5;refine hK.out _ _ (hS5) fun hS=>?_
     clear hK K
     try simp only[sx]
     repeat(refine Zq ?_;simp only[sx])
     refine Zd fun K hK=>?_
     try simp only[sy]
     refine Zh 3 hn7 ?_;intro w7 hB7 hg7;have hS7:Below W.heap.size W w7:=Zab hS5 hS5.size hg7 (by intro k e;injection e;omega);have od7:=(od5.low RSlot.mono hg7 hz66).lower RSlot.mono (b':=W.heap.size) hS6.size;have rd7:=(rd5.mono (Zh9 hg7 hz66 _)).mono (Zbm (b':=W.heap.size) hS6.size);refine hK.out _ _ (hS7) fun hS=>?_
     clear hK K
     try simp only[sx]
     repeat(refine Zq ?_;simp only[sx])
     refine Zah ?_
     go_wp2_with fail
     go_meet;exact⟨_,_,A5,c5,rfl,rfl,rfl,hB7,hS7,hgbW,fun e=>by have:=(hlt5 _ e.symm).1;omega,od7,rd7⟩
   case rest =>
    obtain⟨gb,sd,tA2,tc2,rfl,rfl,rfl,hB,hbc,hgbW,hgbne,od,rd⟩:=hcut;obtain⟨o2,row2,hfr,hview,ho2⟩:=Zis RSlot.mono l1 hbc (Nat.le_refl _) od (pend (.slice tA2 QL.length tc2)) (Zuv _);have hgt:(Value.slice tA2 QL.length tc2).ownBlock≠none→w.heap.size≤(pend (.slice tA2 QL.length tc2)).2:=Zuw fun q hq=>by have:=(od.lt q hq).1;omega
    have f2:=hfr (fun _=>False);have N2:=N1.fr f2 (fun _ h=>h) (fun h=>h);have F2:=F1.step N1.mark f2 (fun _ h=>h.elim) (by omega);have rsd:=rd.mono hview;have rb2:=rb1.mono RDig.mono f2.view;have rp2:=rp1.mono RDig.mono f2.view;have hgb2:o2 gb=none:=(ho2 gb hgbne).trans (l1.none gb hgbW);have hgh2:o2 gh=none:=(ho2 gh (fun e=>by have:=(od.lt _ e.symm).1;have:=hB0.lt;omega)).trans (hl.none gh hgh);have hB02:=hB0.kept hbc;have l2:=f2.lim;have h0:=hB02.cell 0;have h1:=hB02.cell 1;have h2:=hB02.cell 2;have h3:=hB02.cell 3;simp at h0 h1 h2 h3;clear N1 rb1 rp1 rta1 T1 l1 F1 f2 hfr hview od rd hm1;obtain⟨sA,sc,rfl,hfs⟩:=id rsd;clear hfs
    by_cases hE:QE=0
    rotate_left
    ·have hEb:(QE==0)=false:=by simpa using hE
     have hres:NodeAt o2 wc i tb g off QR:=by
      rw[HQ.out,if_pos (.inl hE)];exact N2
     go_wp2
     (try simp only[Exit.inBlock,Exit.then])
     refine bodyPost_ret (results_none rfl _ _ _) rfl ?_;exact⟨rfl,o2,F2,hres⟩
    subst hE
    go_wp2_with fail
    refine(Zj0 i tb g off n (offM h) _ _ _ _ _ _ _ o2 _ l2 hi N2 (Zh5 rb2 rp2) (fun s hs=>by cases hs)).mono ?_;rintro e w4 ⟨rfl,o4,F34,N4⟩
    have hnT:∀{q:Nat×Nat},q.1=7→¬(q=(8,tb)∨q.1=i):=fun h7 e=>by
     rcases e with e|e
     ·rw[e]at h7;cases h7
     ·omega
    have hkp:Fl.keep n (offM h)=if Zfg n (offM h)=0 then(kept n (offM h),true)else(n,false):=rfl
    have hB4:=Za3 hB F34.fr hgb2;have hgb4:o4 gb=none:=((F34.fr.keep gb hB.lt (fun t ht=>by rw[hgb2]at ht;cases ht)).1).trans hgb2;have hH4:=Za3 hB02 F34.fr hgh2;have hgh4:o4 gh=none:=((F34.fr.keep gh hB02.lt (fun t ht=>by rw[hgh2]at ht;cases ht)).1).trans hgh2;have rsd4:=rsd.mono F34.fr.view;have rb4:=rb2.mono RDig.mono F34.fr.view;have rp4:=rp2.mono RDig.mono F34.fr.view;have row4:=row2.fr RSlot.mono F34.fr (hnT rfl);have l4:=F34.fr.lim;have F4:=F2.trans F34
    by_cases hk4:Zfg n (offM h)=0
    rotate_left
    ·have hres:NodeAt o4 w4 i tb g off QR:=by
      rw[HQ.out,if_pos (.inr hk4)];rw[hkp,if_neg hk4]at N4;exact N4
     rw[hkp,if_neg hk4];clear N4 N2 hkp hk4;go_wp2
     (try simp only[Exit.inBlock,Exit.then])
     refine bodyPost_ret (results_none rfl _ _ _) rfl ?_;exact⟨rfl,o4,F4,hres⟩
    rw[hkp,if_pos hk4]at N4⊢
    have HQ2:Hid (QR=tell {kept n (offM h)with table:=QL,own:=some h,mine:=QS.digest,voters:=[n.me] } (offM h)):=by
     show _=_;rw[HQ.out,if_neg];rintro(e|e)
     ·exact e rfl
     ·exact e hk4
    clear N2 rsd hB hB02 row2 l2 F2 F34 hkp hk4 hnT h0 h1 h2 h3 HQ rb2 rp2;obtain⟨o5,row5,f5⟩:=Zkq RSlot.mono l4 row4 (i,3) (by simp;omega);obtain⟨hm4,⟨ztx,zba,zdi,zta,zda,zow,zmi,zvo,ztp,zou⟩,S4,R4⟩:=N4
    have hn8:∀{q:Nat×Nat},q.1≠7→q.1≠i→¬((q=pend (.slice tA2 QL.length tc2)∧(Value.slice tA2 QL.length tc2).ownBlock≠none)∨q=(i,3)):=fun h7 hi' e=>by
     rcases e with ⟨e,_⟩|e
     ·exact h7 (by rw[e];rfl)
     ·exact hi' (by rw[e])
    have S5:=S4.fr f5 hm4 (hn8 (by simp) (by simp;omega));have m5:=Zb5 S4.lt f5 hm4 (hn8 (by simp) (by simp;omega))
    have R5:=R4.ta2 f5 (fun k hk e=>by
     rcases e with ⟨e,_⟩|e
     ·have:=congrArg Prod.fst e;simp[pend]at this;(try omega)
     ·injection e with _ e;exact hk e) row5
    have F5:=F4.step hm4 f5 (fun t ht=>by
     rcases ht with ⟨e,hne⟩|e
     ·exact .inr ⟨by rw[e];rfl,by rw[e];have:=hgt hne;omega⟩
     ·exact .inl (by rw[e])) (by omega)
    have l5:=f5.lim;have hgb5:o5 gb=none:=((f5.keep gb hB4.lt (fun t ht=>by rw[hgb4]at ht;cases ht)).1).trans hgb4;have hgh5:o5 gh=none:=((f5.keep gh hH4.lt (fun t ht=>by rw[hgh4]at ht;cases ht)).1).trans hgh4;have rsd5:=rsd4.mono f5.view;have rb5:=rb4.mono RDig.mono f5.view;have rp5:=rp4.mono RDig.mono f5.view
    go_wp2_with (refine Sec.store S5 (i:=6) [.slice tA2 QL.length tc2] (show 6+1≤15 by decide) rfl rfl rfl rfl (by kernel_rfl) rfl rfl ?_)
    intro w6 S6 hg6 h6;have f6:=Zaq l5 hg6 m5;have R6:=R5.fr f6 (fun k e=>by injection e;omega);have F6:=F5.store m5 hg6 h6 (show 6+1≤15 by decide);have S6:=S6.putTa (xs:=QL);have hB6:=Za3 hB4 f6 hgb5;have hH6:=Za3 hH4 f6 hgh5;have rsd6:=rsd5.mono f6.view;have rb6:=rb5.mono RDig.mono f6.view;have rp6:=rp5.mono RDig.mono f6.view;have l6:=f6.lim;clear S5 R5 F5 hg6 h6 f6 f5 rsd5 rb5 rp5 rsd4 rb4 rp4 hB4 hH4 hgb4 hgh4 F4 l4 l5 row4 row5 S4 R4
    go_upto_region 6 with fail
    have P6:PSt i tb g off o w gh gb h (.slice bA h.batches.length bc) (.slice pA h.parents.length pc) (.slice sA QS.digest.length sc) QS {kept n (offM h)with table:=QL } _ o5 w6:=⟨l6,m5,S6,R6,F6,hgh5,hH6,hgb5,hB6,rb6,rp6,rsd6⟩;clear S6 R6 F6 hH6 hB6 rb6 rp6 rsd6 l6 hgb5 hgh5;refine Zt (fun w'=>Below w6.heap.size w6 w') (fun w'=>w'.cell? ⟨gb,2,none⟩=some (.slice sA QS.digest.length sc)∧w'.cell? ⟨g,off,none⟩=some (.int .i64 n.me)) [] (.q 0 (.q 1 (.q 2 (.q 3 (.q 4 (.q 5 (.q 6 (.q 7 (.q 8 (.q 10 (.q 11 (.alt 9 (.l 12 (.q 13 (.q 14 (.l 15 (.q 16 (.q 17 (.l 18 .nil))))))) 12 (.q 13 (.q 14 (.alt 9 (.l 15 (.q 16 (.q 17 (.l 18 .nil)))) 15 (.l 9 (.q 16 (.q 17 (.l 18 .nil))))))))))))))))))) ?_ ?_
    ·exact⟨Zad _,(P6.below (Zad _)).cells rfl⟩
    intro w7 hS0 hS1;have P7:=P6.below hS0;obtain⟨o7,ho7⟩:∃x,x=o5:=⟨_,rfl⟩;subst ho7;clear P6
    repeat((first|refine pq (h:=⟨_,fun w' hS=>by(have z1:=hS.1;have z2:=hS.2;go_simp;exact rfl),?_⟩)|refine Zq ?_);simp only[sx])
    refine Zcl ?_ ?_
    ·skip
     refine Zd fun K hK=>?_
     try simp only[sy]
     go_simp;have P8:=P7.lit hi (.cells #[.int .i64 n.me] 3);have L8:=Blk.new w7 3 #[.int .i64 n.me];have M8:=Zc7 o7 w7.heap.size (some (i,4));obtain⟨o8,ho8⟩:∃x,x=mark o7 w7.heap.size (some (i,4)):=⟨_,rfl⟩;rw[←ho8]at P8 M8;obtain⟨w8,hw8⟩:∃x:World,x=w7.alloc (.cells #[.int .i64 n.me] 3):=⟨_,rfl⟩;rw[←hw8]at P8 L8⊢;refine hK.out _ _ (P8.cells rfl) fun hS=>?_
     clear hK K
     try simp only[sx]
     repeat(refine Zq ?_;simp only[sx])
     clear ho8 hw8;refine Zd fun K hK=>?_
     try simp only[sy]
     refine Sec.wp_store P8.S (i:=8) [.pointer (some ⟨gh,0,none⟩)] (show 8+1≤15 by decide) rfl rfl rfl (by kernel_rfl) rfl rfl ?_;intro w9 S9 hg9 h9;have P9:=P8.store hi (S9.putOw (xs:=some h)) hg9 h9 (show 8+1≤15 by decide) (fun r=>r.setOw (P8.own_ok.mono (Zaq P8.l hg9 P8.m).view));refine hK.out _ _ (P9.cells rfl) fun hS=>?_
     clear hK K
     try simp only[sx]
     repeat(refine Zq ?_;simp only[sx])
     have L9:=L8.grown hg9 (by intro e;injection e with e;rw[e,P8.m]at M8;injection M8 with M8;injection M8 with M8 _;omega);have M9:=M8;refine Zd fun K hK=>?_
     try simp only[sy]
     refine Sec.wp_store P9.S (i:=9) [.slice sA QS.digest.length sc] (show 9+1≤15 by decide) rfl rfl rfl (by kernel_rfl) rfl rfl ?_;intro w10 S10 hg10 h10;have P10:=P9.store hi (S10.putMi (xs:=QS.digest)) hg10 h10 (show 9+1≤15 by decide) (fun r=>r.setMi (P9.rs.mono (Zaq P9.l hg10 P9.m).view));refine hK.out _ _ (P10.cells rfl) fun hS=>?_
     clear hK K
     try simp only[sx]
     repeat(refine Zq ?_;simp only[sx])
     have L10:=L9.grown hg10 (by intro e;injection e with e;rw[e,P9.m]at M9;injection M9 with M9;injection M9 with M9 _;omega);have M10:=M9;refine Zd fun K hK=>?_
     try simp only[sy]
     refine Sec.wp_store P10.S (i:=10) [.slice (some ⟨w7.heap.size,0,none⟩) 1 1] (show 10+1≤15 by decide) rfl rfl rfl (by kernel_rfl) rfl rfl ?_;intro w15 S15 hg15 h15;have L15:=L10.grown hg15 (by intro e;injection e with e;rw[e,P10.m]at M10;injection M10 with M10;injection M10 with M10 _;omega);have M15:=M10;have P15:=P10.store hi (S15.putVo (xs:=[n.me])) hg15 h15 (show 10+1≤15 by decide) (fun r=>r.setVo (Znl L15 M15));refine hK.out _ _ (P15.cells rfl) fun hS=>?_
     clear hK K
     try simp only[sx]
     repeat(refine Zq ?_;simp only[sx])
     refine Zah ?_;have N15:NodeAt o8 w15 i tb g off {kept n (offM h)with table:=QL,own:=some h,mine:=QS.digest,voters:=[n.me] }:=⟨P15.m,_,P15.S,P15.R⟩;have c0:=P15.H.cell 0;have c1:=P15.H.cell 1;have c2:=P15.H.cell 2;have c3:=P15.H.cell 3;simp at c0 c1 c2 c3;have F15:=P15.F;have l15:=P15.l;have rb15:=P15.rb;have rp15:=P15.rp;clear P15 P8 P9 P10
     go_wp2_with fail
     refine(Zhv i tb g off _ (offM h) _ _ _ _ _ _ _ _ _ l15 hi N15 (Zh5 rb15 rp15) (fun s hs=>by cases hs) H4.out).mono ?_;rintro e w16 ⟨rfl,o16,F16,N16⟩;rw[←HQ2.out]at N16;go_wp2;go_end0;exact⟨rfl,o16,F15.trans F16,N16⟩
    ·skip
     refine Zd fun K hK=>?_
     try simp only[sy]
     refine Sec.wp_store P7.S (i:=8) [.pointer (some ⟨gh,0,none⟩)] (show 8+1≤15 by decide) rfl rfl rfl (by kernel_rfl) rfl rfl ?_;intro w8 S8 hg8 h8;have P8:=P7.store hi (S8.putOw (xs:=some h)) hg8 h8 (show 8+1≤15 by decide) (fun r=>r.setOw (P7.own_ok.mono (Zaq P7.l hg8 P7.m).view));refine hK.out _ _ (P8.cells rfl) fun hS=>?_
     clear hK K
     try simp only[sx]
     repeat(refine Zq ?_;simp only[sx])
     refine Zcl ?_ ?_
     ·skip
      refine Zd fun K hK=>?_
      try simp only[sy]
      go_simp;have P9:=P8.lit hi (.cells #[.int .i64 n.me] 3);have L9:=Blk.new w8 3 #[.int .i64 n.me];have M9:=Zc7 o7 w8.heap.size (some (i,4));obtain⟨o9,ho9⟩:∃x,x=mark o7 w8.heap.size (some (i,4)):=⟨_,rfl⟩;rw[←ho9]at P9 M9;obtain⟨w9,hw9⟩:∃x:World,x=w8.alloc (.cells #[.int .i64 n.me] 3):=⟨_,rfl⟩;rw[←hw9]at P9 L9⊢;refine hK.out _ _ (P9.cells rfl) fun hS=>?_
      clear hK K
      try simp only[sx]
      repeat(refine Zq ?_;simp only[sx])
      clear ho9 hw9;refine Zd fun K hK=>?_
      try simp only[sy]
      refine Sec.wp_store P9.S (i:=9) [.slice sA QS.digest.length sc] (show 9+1≤15 by decide) rfl rfl rfl (by kernel_rfl) rfl rfl ?_;intro w10 S10 hg10 h10;have P10:=P9.store hi (S10.putMi (xs:=QS.digest)) hg10 h10 (show 9+1≤15 by decide) (fun r=>r.setMi (P9.rs.mono (Zaq P9.l hg10 P9.m).view));refine hK.out _ _ (P10.cells rfl) fun hS=>?_
      clear hK K
      try simp only[sx]
      repeat(refine Zq ?_;simp only[sx])
      have L10:=L9.grown hg10 (by intro e;injection e with e;rw[e,P9.m]at M9;injection M9 with M9;injection M9 with M9 _;omega);have M10:=M9;refine Zd fun K hK=>?_
      try simp only[sy]
      refine Sec.wp_store P10.S (i:=10) [.slice (some ⟨w8.heap.size,0,none⟩) 1 1] (show 10+1≤15 by decide) rfl rfl rfl (by kernel_rfl) rfl rfl ?_;intro w15 S15 hg15 h15;have L15:=L10.grown hg15 (by intro e;injection e with e;rw[e,P10.m]at M10;injection M10 with M10;injection M10 with M10 _;omega);have M15:=M10;have P15:=P10.store hi (S15.putVo (xs:=[n.me])) hg15 h15 (show 10+1≤15 by decide) (fun r=>r.setVo (Znl L15 M15));refine hK.out _ _ (P15.cells rfl) fun hS=>?_
      clear hK K
      try simp only[sx]
      repeat(refine Zq ?_;simp only[sx])
      refine Zah ?_;have N15:NodeAt o9 w15 i tb g off {kept n (offM h)with table:=QL,own:=some h,mine:=QS.digest,voters:=[n.me] }:=⟨P15.m,_,P15.S,P15.R⟩;have c0:=P15.H.cell 0;have c1:=P15.H.cell 1;have c2:=P15.H.cell 2;have c3:=P15.H.cell 3;simp at c0 c1 c2 c3;have F15:=P15.F;have l15:=P15.l;have rb15:=P15.rb;have rp15:=P15.rp;clear P15 P8 P9 P10
      go_wp2_with fail
      refine(Zhv i tb g off _ (offM h) _ _ _ _ _ _ _ _ _ l15 hi N15 (Zh5 rb15 rp15) (fun s hs=>by cases hs) H4.out).mono ?_;rintro e w16 ⟨rfl,o16,F16,N16⟩;rw[←HQ2.out]at N16;go_wp2;go_end0;exact⟨rfl,o16,F15.trans F16,N16⟩
     ·skip
      refine Zd fun K hK=>?_
      try simp only[sy]
      refine Sec.wp_store P8.S (i:=9) [.slice sA QS.digest.length sc] (show 9+1≤15 by decide) rfl rfl rfl (by kernel_rfl) rfl rfl ?_;intro w9 S9 hg9 h9;have P9:=P8.store hi (S9.putMi (xs:=QS.digest)) hg9 h9 (show 9+1≤15 by decide) (fun r=>r.setMi (P8.rs.mono (Zaq P8.l hg9 P8.m).view));refine hK.out _ _ (P9.cells rfl) fun hS=>?_
      clear hK K
      try simp only[sx]
      repeat(refine Zq ?_;simp only[sx])
      refine Zd fun K hK=>?_
      try simp only[sy]
      go_simp;have P10:=P9.lit hi (.cells #[.int .i64 n.me] 3);have L10:=Blk.new w9 3 #[.int .i64 n.me];have M10:=Zc7 o7 w9.heap.size (some (i,4));obtain⟨o10,ho10⟩:∃x,x=mark o7 w9.heap.size (some (i,4)):=⟨_,rfl⟩;rw[←ho10]at P10 M10;obtain⟨w10,hw10⟩:∃x:World,x=w9.alloc (.cells #[.int .i64 n.me] 3):=⟨_,rfl⟩;rw[←hw10]at P10 L10⊢;refine hK.out _ _ (P10.cells rfl) fun hS=>?_
      clear hK K
      try simp only[sx]
      repeat(refine Zq ?_;simp only[sx])
      clear ho10 hw10;refine Zd fun K hK=>?_
      try simp only[sy]
      refine Sec.wp_store P10.S (i:=10) [.slice (some ⟨w9.heap.size,0,none⟩) 1 1] (show 10+1≤15 by decide) rfl rfl rfl (by kernel_rfl) rfl rfl ?_;intro w15 S15 hg15 h15;have L15:=L10.grown hg15 (by intro e;injection e with e;rw[e,P10.m]at M10;injection M10 with M10;injection M10 with M10 _;omega);have M15:=M10;have P15:=P10.store hi (S15.putVo (xs:=[n.me])) hg15 h15 (show 10+1≤15 by decide) (fun r=>r.setVo (Znl L15 M15));refine hK.out _ _ (P15.cells rfl) fun hS=>?_
      clear hK K
      try simp only[sx]
      repeat(refine Zq ?_;simp only[sx])
      refine Zah ?_;have N15:NodeAt o10 w15 i tb g off {kept n (offM h)with table:=QL,own:=some h,mine:=QS.digest,voters:=[n.me] }:=⟨P15.m,_,P15.S,P15.R⟩;have c0:=P15.H.cell 0;have c1:=P15.H.cell 1;have c2:=P15.H.cell 2;have c3:=P15.H.cell 3;simp at c0 c1 c2 c3;have F15:=P15.F;have l15:=P15.l;have rb15:=P15.rb;have rp15:=P15.rp;clear P15 P8 P9 P10
      go_wp2_with fail
      refine(Zhv i tb g off _ (offM h) _ _ _ _ _ _ _ _ _ l15 hi N15 (Zh5 rb15 rp15) (fun s hs=>by cases hs) H4.out).mono ?_;rintro e w16 ⟨rfl,o16,F16,N16⟩;rw[←HQ2.out]at N16;go_wp2;go_end0;exact⟨rfl,o16,F15.trans F16,N16⟩
end Fl
end Go.Proofs.YtinibgklgehdpaaGreatDoor
