/- A part of what the last text stands on. -/
import Derived.Test.YtinibgklgehdpaaGreatDoorK02
import Derived.Test.YtinibgklgehdpaaGreatDoorK03
import Derived.Test.YtinibgklgehdpaaGreatDoorK04
import Derived.Test.YtinibgklgehdpaaGreatDoorK08
namespace Go.Proofs.YtinibgklgehdpaaGreatDoor
open Go.ChangeShapes Go.WideShapes Go.ChangeAt Go.RowKit Qa Qb Qc
set_option linter.all false
set_option maxHeartbeats 20000000
set_option maxRecDepth 100000
variable{w:World}{v:Value}{A:Option Addr}{h:View}{b c:Nat}{l:List Crt}
def Zqc(l:List Crt)(h:Hdr):Int:=if dagF hD cF l≠0 then dagF hD cF l else if hF h≠0 then hF h else if Zgf l (dsOf hD l) h then 9 else 0
def Zu4(l:List Crt)(h:Hdr):List (List UInt8):=if Zqc l h=0 then Zgg (dsOf hD l) h else []
theorem Zic(h:dagF hD cF l=0):l.length≤400∧(∀c∈l,hF c.hdr=0):=⟨(dagF_zero h).1,fun c hc=>Zv1 ((dagF_zero h).2.1 c hc)⟩
theorem RDigs.of_own{xs:List (List UInt8)}{bb:Nat}(h:OwnSl 1 (RFrom bb RDig) 54 w b v xs)(hl:xs.length*24≤140737488355328):RDigs w.cell? v xs :=
 RSl.weak (fun h cs x hr=>RDig.mono _ _ _ _ hr (View.from_le _ _)) (h.reads (RFrom.mono RDig.mono) hl)
theorem RDigs.nil(h:View):RDigs h (.slice none 0 0) []:=⟨none,0,rfl,Nat.le_refl _,Nat.zero_le _,by simp,fun _=>rfl,fun h=>by simp at h⟩
theorem Zl7(vl:Value)(l:List Crt)(h:Hdr)(vb vp:Value)(w:World)(hl:RCrts w.cell? vl l)(hb:RDigs w.cell? vb h.batches)(hp:RDigs w.cell? vp h.parents)(hT:Tabs w.cell?) :
 Calls Tryz.prog 142 #[.agg #[vl],.agg #[.int .i64 h.author,.int .i64 h.round,vb,vp]] w fun e w'=>∃d,e=.returned (.tuple #[d,.int .i64 (Zqc l h)])∧Below w.heap.size w w'∧RDigs w'.cell? d (Zu4 l h):=by
 obtain⟨A,c,rfl,hf0⟩:=id hl;obtain⟨bA,bc,rfl,hf1⟩:=id hb;obtain⟨pA,pc,rfl,hf2⟩:=id hp;clear hf0 hf1 hf2;have hpl:h.parents.length*24≤140737488355328:=by obtain⟨_,_,_,_,_,h,_⟩:=hp;exact h
 obtain⟨QE,hQE⟩:∃q,Hid (Zqc l h=q):=⟨_,rfl⟩;obtain⟨QL,hQL⟩:∃q,Hid (Zu4 l h=q):=⟨_,rfl⟩;have hE0:Hid (QE=if dagF hD cF l≠0 then dagF hD cF l else if hF h≠0 then hF h else if Zgf l (dsOf hD l) h then 9 else 0):=hQE.out.symm;have hL0:Hid (QL=if QE=0 then Zgg (dsOf hD l) h else []):=by show _=_;rw[←hQL.out];unfold Zu4;rw[hQE.out]
 have hvalid:Hid (dagF hD cF l=0→l.length≤400∧(∀c∈l,hF c.hdr=0)):=Zic;have hhdr:Hid (hF h=0→1≤h.round∧h.round≤1048576):=fun h0=>by obtain⟨a,b,_⟩:=headF_zero h0;exact⟨a,b⟩
 rw[hQE.out,hQL.out];clear hQE hQL;obtain⟨E1,hE1⟩:∃q,Hid (dagF hD cF l=q):=⟨_,rfl⟩;obtain⟨E2,hE2⟩:∃q,Hid (hF h=q):=⟨_,rfl⟩;rw[hE1.out,hE2.out]at hE0;rw[hE1.out]at hvalid;rw[hE2.out]at hhdr
 go_enter Tryz.func142,Tryz.ntmps142
 go_wp2_with fail
 refine Za6 _ _ _ _ _ (fun W=>Calls Tryz.prog _ _ W _) (fun W hk1 hk2 hsz hbW=>?_);clear hsz;refine(Zfb _ l _ (hl.mono RCrt.mono (Zaa hbW)) (hT.mono (Zaa hbW))).mono ?_;rintro e w1 ⟨rfl,hb1⟩;rw[hE1.out];have hbl1:=hbW.trans (hb1.mono hbW.size);have hk11:=hk1.kept hb1;have hk21:=hk2.kept hb1;have hz1:=hbl1.size
 by_cases h1:E1=0
 ·have hv:=Lib.hid (hvalid.out h1);have hE0:Hid (QE=if E2≠0 then E2 else if Zgf l (dsOf hD l) h then 9 else 0):=by show _=_;rw[hE0.out];simp[h1]
  clear hvalid hE1;subst h1;have g0:=hk21.cell 0;have g1:=hk21.cell 1;have g2:=hk21.cell 2;have g3:=hk21.cell 3;simp at g0 g1 g2 g3
  go_wp2_with fail
  refine(Zdn _ _ _ _ h.batches h.parents _ (hb.mono RDig.mono (Zaa hbl1)) (hp.mono RDig.mono (Zaa hbl1))).mono ?_;rintro e w2 ⟨rfl,hb2⟩;rw[show Zb3 h.author h.round h.batches h.parents=E2 from hE2.out];have hbl2:=hbl1.trans (hb2.mono hz1);have hk12:=hk11.kept hb2;have hk22:=hk21.kept hb2;have hz2:=hbl2.size;clear g0 g1 g2 g3
  by_cases h2:E2=0
  ·have hr:=hhdr.out h2;have hE0:Hid (QE=if Zgf l (dsOf hD l) h then 9 else 0):=by show _=_;rw[hE0.out];simp[h2]
   clear hhdr hE2;subst h2;have hl2:=hl.mono RCrt.mono (Zaa hbl2);have hp2:=hp.mono RDig.mono (Zaa hbl2);have hT2:=hT.mono (Zaa hbl2)
   go_wp2_with fail
   refine Zr [11] (.q 0 (.q 1 (.q 2 (.q 3 (.q 5 (.l 4 (.l 6 (.q 7 (.q 8 (.q 9 (.q 10 (.qc 11 .nil)))))))))))) fun W3 hS3=>?_
   repeat((first|refine pq (h:=⟨_,fun w' hS=>by(have hq:=hk12.kept hS;have h0:=hq.cell 0;have hh:=hk22.kept hS;have p0:=hh.cell 0;have p1:=hh.cell 1;have p2:=hh.cell 2;have p3:=hh.cell 3;simp at h0 p0 p1 p2 p3;go_simp;exact rfl),?_⟩)|refine Zq ?_);simp only[sx])
   refine Zd fun K hK=>?_
   try simp only[sy]
   go_simp;refine(Zq1 _ l _ (hl2.mono RCrt.mono (Zaa hS3)) hv.out.2 (hT2.mono (Zaa hS3))).mono ?_;rintro e w4 ⟨vd,rfl,hb4,od⟩;have hS4:=hS3.trans (hb4.mono hS3.size);have rD:=RDigs.of_own od (by rw[Zgx];have:=hv.out.1;omega);have hlen:(dsOf hD l).length≤l.length:=by rw[Zgx];omega
   clear od;generalize dsOf hD l=Ds at rD hlen hE0 hL0;obtain⟨dA,dc,rfl,hfd⟩:=id rD;clear hfd;refine hK.out _ _ (hS4) fun hS=>?_
   clear hK K
   try simp only[sx]
   repeat((first|refine pq (h:=⟨_,fun w' hS=>by(have hh:=hk22.kept hS;have p0:=hh.cell 0;have p1:=hh.cell 1;have p2:=hh.cell 2;have p3:=hh.cell 3;simp at p0 p1 p2 p3;go_simp;exact rfl),?_⟩)|refine Zq ?_);simp only[sx])
   refine Zd fun K hK=>?_
   try simp only[sy]
   go_simp;refine(Zhi _ _ l Ds h _ _ _ (hl2.mono RCrt.mono (Zaa hS4)) rD (hp2.mono RDig.mono (Zaa hS4)) hlen hr.1 hr.2).mono ?_;rintro e w5 ⟨v5,rfl,hb5,o5⟩;have hS5:=hS4.trans (hb5.mono hS4.size);have r5:=RDigs.of_own o5 (Nat.le_trans (Nat.mul_le_mul_right _ (List.length_filter_le _ _)) hpl);obtain⟨A5,c5,rfl⟩:=o5.form;clear o5 rD;generalize Zgg Ds h=N at r5 hL0;generalize Zgf l Ds h=MW at hE0;refine hK.out _ _ (hS5) fun hS=>?_
   clear hK K
   try simp only[sx]
   repeat(refine Zq ?_;simp only[sx])
   refine Zah ?_;have hbl5:=hbl2.trans (hS5.mono hz2);clear hk12 hk22 hk11 hk21 hl2 hp2 hT2;cases MW
   ·have HE:Hid (QE=0):=by show _=_;rw[hE0.out];rfl
    have HL:Hid (QL=N):=by show _=_;rw[hL0.out,if_pos HE.out]
    clear hE0 hL0;go_wp2;go_ret2;exact⟨_,by rw[HE.out];rfl,hbl5,by rw[HL.out];exact r5⟩
   ·have HE:Hid (QE=9):=by show _=_;rw[hE0.out];rfl
    have HL:Hid (QL=[]):=by show _=_;rw[hL0.out,if_neg (by rw[HE.out];decide)]
    clear hE0 hL0;go_wp2;go_ret2;exact⟨_,by rw[HE.out];rfl,hbl5,by rw[HL.out];exact RDigs.nil _⟩
  ·have HE:Hid (QE=E2):=by show _=_;rw[hE0.out];simp[h2]
   have HL:Hid (QL=[]):=by show _=_;rw[hL0.out,HE.out,if_neg h2]
   clear hE0 hL0;go_wp2;go_ret2;exact⟨_,by rw[HE.out];rfl,hbl2,by rw[HL.out];exact RDigs.nil _⟩
 ·have HE:Hid (QE=E1):=by show _=_;rw[hE0.out,if_pos h1]
  have HL:Hid (QL=[]):=by show _=_;rw[hL0.out,HE.out,if_neg h1]
  clear hE0 hL0;go_wp2;go_ret2;exact⟨_,by rw[HE.out];rfl,hbl1,by rw[HL.out];exact RDigs.nil _⟩
theorem Zgy(v:Value)(xs:List Int)(w:World)(hr:RIs w.cell? v xs) :
 Calls Tryz.prog 69 #[v] w fun e w'=>∃v',e=.returned v'∧Below w.heap.size w w'∧OwnI w' w.heap.size v' xs:=by
 have hb:xs.length*8≤140737488355328:=hr.len;have hb1:=Lib.hid hb;obtain⟨A,c,rfl,hf⟩:=id hr;have e1:=@Lib.run_eql_slice_nil Tryz.prog;clear hb hf;cases A with
 |none =>
  obtain⟨rfl,h1,rfl⟩:=hr.isNil
  go_enter Tryz.func69,Tryz.ntmps69
  go_wp2;go_ret;exact⟨_,rfl,Below.refl _ _,OwnVec.nil _ _ _ _⟩
 |some a =>
  have hr':=hr.mono (Zaa ((Below.refl _ _).alloc (Nat.le_refl _) (.cells #[] 3)));clear hr
  go_enter Tryz.func69,Tryz.ntmps69
  go_wp2_with (at_builtin;refine Za5 (n:=140737488355328) Zvn Zib _ _ rfl rfl rfl (OwnVec.made _ _ _ _ (Nat.le_refl _)) ((Below.refl _ _).alloc (Nat.le_refl _) _) (Zau _ (Nat.le_refl _)) rfl hr' (Nat.le_refl _) (by simpa using hb1.out) (by have:=hb1.out;simp;omega) ?_)
  intro v' w1 ho hbl _;go_wp2;go_ret;exact⟨v',rfl,hbl,by simpa using ho⟩
theorem Zhb(v:Value)(l:List (List UInt8))(w:World)(hv:RDigs w.cell? v l) :
 Calls Tryz.prog 193 #[v] w fun e w'=>∃v',e=.returned v'∧Below w.heap.size w w'∧OwnSl 1 (RFrom w.heap.size RDig) 54 w' w.heap.size v' l:=by
 obtain⟨A,c,rfl,hf⟩:=id hv;obtain⟨_,hcap,hlen,hel⟩:=hv.at;have Hel:=Lib.hid hel;clear hel hv hf
 go_enter Tryz.func193,Tryz.ntmps193
 go_wp2
 go_loopw [3,5,8] (fun v _ i wr=>∃k:Nat,k≤l.length∧i=.int .i64 k∧OwnSl 1 (RFrom w.heap.size RDig) 54 wr w.heap.size v (l.take k)∧Below w.heap.size w wr) (fun _ _ i _=>l.length-(intOf i).toNat)
 case atStart=>exact⟨0,Nat.zero_le _,rfl,OwnSl.nil _ _ _ _ _,Below.refl _ _⟩
 case round =>
  obtain⟨k,hk,rfl,hown,hbl⟩:=hrel;have hbs:=hbl.size
  by_cases hlt:k<l.length
  ·obtain⟨b0,o0,d,rfl,e0,hd⟩:=Hel.out k hlt;have c0:=Zaa hbl _ _ e0;have hd':=hd.mono (Zaa hbl);have Hlk:=Lib.hid (show(l.take k).length=k by simp;omega);have Hn:=Lib.hid (List.take_succ_eq_append_getElem hlt);have hdl:=Lib.hid (show l[k].length*1≤140737488355328 from hd.len);clear e0 hd;generalize l.take k=L at hown Hlk Hn;generalize l[k]=x at hd' hdl Hn;obtain⟨xA,xc,rfl,hfx⟩:=id hd';clear hfx
   go_wp2_with fail
   refine(Zci _ x _ hd').mono ?_;rintro e w1 ⟨d',rfl,hb1,o1⟩;have hown1:=hown.kept (RFrom.mono RDig.mono) hb1;have hbl1:Below w.heap.size w w1:=hbl.trans (hb1.mono hbs)
   have hR:RFrom w.heap.size RDig (View.but w1.cell? u3.ownBlock) [d'] x :=
    ⟨d',rfl,o1.reads_from hdl.out hbs (fun g hg=>(hown.lt g hg).2)⟩
   have hs1:=hbl1.size;obtain⟨A',c',rfl⟩:=o1.form;clear c0 hd' o1
   go_wp2_with (at_builtin;go_loud (refine Za2 (n:=140737488355328) (RFrom.mono RDig.mono) x [.slice A' x.length c'] Zez _ _ rfl rfl rfl hown1 hbl1 hs1 rfl rfl rfl rfl hR (Nat.le_refl _) (by rw[Hlk.out];omega) (by rw[Hlk.out];omega) ?_))
   intro v' w2 ho hbl2 _;clear hown hown1 hR;go_wp2;go_roundw
   case rel=>exact⟨k+1,by omega,by go_num,by rw[Hn.out];exact ho,hbl2⟩
   case measure=>simp[intOf];omega
  ·have:k=l.length:=by omega
   subst this;go_wp2;go_ret;exact⟨_,rfl,hbl,by simpa using hown⟩
theorem Zmw(a r:Int)(vb vp vv:Value)(b p:List (List UInt8))(vs:List Int)(w:World)(hb:RDigs w.cell? vb b)(hp:RDigs w.cell? vp p)(hv:RIs w.cell? vv vs) :
 Calls Tryz.prog 179 #[.agg #[.int .i64 a,.int .i64 r,vb,vp,vv]] w fun e w'=>∃vb' vp' vv',e=.returned (.agg #[.int .i64 a,.int .i64 r,vb',vp',vv'])∧Below w.heap.size w w' ∧
  RDigs (View.from w'.cell? w.heap.size) vb' b∧RDigs (View.from w'.cell? w.heap.size) vp' p∧RIs (View.from w'.cell? w.heap.size) vv' vs:=by
 have hlb:b.length*24≤140737488355328:=by obtain⟨_,_,_,_,_,h,_⟩:=hb;exact h
 have hlp:p.length*24≤140737488355328:=by obtain⟨_,_,_,_,_,h,_⟩:=hp;exact h
 have hlv:=hv.len;obtain⟨bA,bc,rfl,hf1⟩:=id hb;obtain⟨pA,pc,rfl,hf2⟩:=id hp;obtain⟨vA,vc,rfl,hf3⟩:=id hv;clear hf1 hf2 hf3
 go_enter Tryz.func179,Tryz.ntmps179
 go_upto_region 1 with fail
 refine Za6 _ _ _ _ _ (fun W=>Code.wp _ _ _ _ W) (fun W hk1 hk2 hsz hbW=>?_);have hszI:w.heap.size+2≤W.heap.size:=by omega
 clear hsz;have g0:=hk1.cell 0;have g1:=hk1.cell 1;have g2:=hk1.cell 2;have g3:=hk1.cell 3;simp at g0 g1 g2 g3
 go_upto_region 2 with fail
 refine Zo fun W2 h3 hs3 hb3=>?_
 have hz3:W.heap.size+1≤W2.heap.size:=by omega
 clear hs3 g0 g1 g2 g3;have hbl2:=hbW.trans (hb3.mono hbW.size);have hk12:=hk1.kept hb3;have hk22:=hk2.kept hb3;have hB:=hb.mono RDig.mono (Zaa hbl2);have hP:=hp.mono RDig.mono (Zaa hbl2);have hV:=hv.mono (Zaa hbl2);have hV0:=hv;clear hk1 hk2 hb hp hv hV;refine Zt (fun w'=>Below W2.heap.size W2 w') (fun w'=>Below W2.heap.size W2 w') [6,7,8,9] (.q 0 (.q 1 (.q 3 (.q 4 (.l 2 (.qc 6 (.l 5 (.l 7 (.qc 8 (.l 9 .nil)))))))))) ?_ ?_
 ·exact⟨Zad _,Zad _⟩
 intro W3 _ hS3
 repeat((first|refine pq (h:=⟨_,fun w' hS=>by(have hq:=h3.kept hS;have h0:=hq.cell 0;have h1:=hq.cell 1;have h2:=hq.cell 2;have h3:=hq.cell 3;simp at h0 h1 h2 h3;go_simp;exact rfl),?_⟩)|refine Zq ?_);simp only[sx])
 refine Zd fun K hK=>?_
 try simp only[sy]
 go_simp;refine(Zhb _ b _ (hB.mono RDig.mono (Zaa hS3))).mono ?_;rintro e w4 ⟨v4,rfl,hb4,o4⟩;have hS4:=hS3.trans (hb4.mono hS3.size);have r4:=o4.reads_from RDig.mono hlb;obtain⟨A4,c4,rfl⟩:=o4.form;clear o4;refine hK.out _ _ (hS4) fun hS=>?_
 clear hK K
 try simp only[sx]
 repeat(refine Zq ?_;simp only[sx])
 refine Zd fun K hK=>?_
 try simp only[sy]
 go_simp;refine(Zhb _ p _ (hP.mono RDig.mono (Zaa hS4))).mono ?_;rintro e w5 ⟨v5,rfl,hb5,o5⟩;have hS5:=hS4.trans (hb5.mono hS4.size);have r5:=o5.reads_from RDig.mono hlp;obtain⟨A5,c5,rfl⟩:=o5.form;have h35:=h3.kept hS5;have r45:=r4.mono RDig.mono (Za0 _ (Zaa hb5));clear o5 r4;refine hK.out _ _ (hS5) fun hS=>?_
 clear hK K
 try simp only[sx]
 repeat(refine Zq ?_;simp only[sx])
 refine Zc fun K hK=>?_
 try simp only[sy]
 refine Zav (n:=1) rfl rfl rfl (by kernel_rfl) rfl h35 (by simp) rfl ?_;intro w6 h36 hg6;have h36:Blk w6 W.heap.size 51 #[.int .i64 a,.int .i64 r,.slice A4 b.length c4,.slice pA p.length pc]:=h36;refine hK.out _ _ ?_;clear hK K
 try simp only[sx]
 repeat(refine Zq ?_;simp only[sx])
 refine Zc fun K hK=>?_
 try simp only[sy]
 refine Zav (n:=1) rfl rfl rfl (by kernel_rfl) rfl h36 (by simp) rfl ?_;intro w7 h37 hg7;have h37:Blk w7 W.heap.size 51 #[.int .i64 a,.int .i64 r,.slice A4 b.length c4,.slice A5 p.length c5]:=h37;have hg57:=Zaf hg6 hg7;have hk17:=(hk12.kept hS5).grown hg57 (by simp;omega);have hk27:=(hk22.kept hS5).grown hg57 (by simp;omega);have hz35:=hS3.size;have hz45:=hS4.size;have r47:RDigs (View.from w7.cell? (W.heap.size+1)) (.slice A4 b.length c4) b:=r45.mono RDig.mono (Zde (by omega) (VLe.refl _) hg57 (by omega));have r57:RDigs (View.from w7.cell? (W.heap.size+1)) (.slice A5 p.length c5) p:=r5.mono RDig.mono (Zde (by omega) (VLe.refl _) hg57 (by omega));have hbl7:Below W.heap.size W w7:=Zab (hb3.trans (hS5.mono (by omega))) (by have:=hS5.size;omega) hg57 (by intro k e;injection e;omega)
 have hV7:RIs w7.cell? (.slice vA vs.length vc) vs:=by
  refine RVec.mono (h:=w.cell?) ?_ (Zaa (hbW.trans (hbl7.mono hbW.size)));exact hV0
 refine hK.out _ _ ?_;clear hK K
 try simp only[sx]
 repeat(refine Zq ?_;simp only[sx])
 refine Zah ?_;have hz77:W.heap.size+1≤w7.heap.size:=by have:=hg57.size;have:=hS5.size;omega
 clear hk12 hk22 hS3 hS4 hS5 hg6 hg7 r45 r5 h35 h36 hB hP;have hz7:=hbl7.size
 go_wp2_with fail
 refine Zr [5] (.q 0 (.q 1 (.q 2 (.l 3 (.q 4 (.l 5 .nil)))))) fun W8 hS8=>?_
 repeat((first|refine pq (h:=⟨_,fun w' hS=>by(have hq:=h37.kept hS;have h0:=hq.cell 0;have h1:=hq.cell 1;have h2:=hq.cell 2;have h3:=hq.cell 3;have hp:=hk17.kept hS;have p4:=hp.cell 4;simp at h0 h1 h2 h3 p4;go_simp;exact rfl),?_⟩)|refine Zq ?_);simp only[sx])
 refine Zd fun K hK=>?_
 try simp only[sy]
 go_simp;refine(Zgy _ vs _ (hV7.mono (Zaa hS8))).mono ?_;rintro e w9 ⟨v9,rfl,hb9,o9⟩;have hS9:=hS8.trans (hb9.mono hS8.size);obtain⟨A9,c9,rfl⟩:=o9.form;have hk29:=hk27.kept hS9;have hz8:=hS8.size;refine hK.out _ _ (hS9) fun hS=>?_
 clear hK K
 try simp only[sx]
 repeat(refine Zq ?_;simp only[sx])
 refine Zc fun K hK=>?_
 try simp only[sy]
 refine Zh 5 hk29 ?_;intro w10 hB10 hg10;refine hK.out _ _ ?_;clear hK K
 try simp only[sx]
 repeat(refine Zq ?_;simp only[sx])
 refine Zah ?_;go_wp2;refine bodyPost_ret (Zay rfl rfl (by kernel_rfl) (by kernel_rfl) hB10 rfl) rfl ?_;have hbl10:Below w.heap.size w w10:=Zab ((hbW.trans (hbl7.mono hbW.size)).trans (hS9.mono (by omega))) (by have:=hS9.size;omega) hg10 (by intro k e;injection e;omega);have hzz:w.heap.size+1<W.heap.size+1:=by omega
 refine⟨_,_,_,rfl,hbl10,?_,?_,?_⟩
 ·exact r47.mono RDig.mono (Zde (by omega) (Za0 _ (Zaa hS9)) hg10 hzz)
 ·exact r57.mono RDig.mono (Zde (by omega) (Za0 _ (Zaa hS9)) hg10 hzz)
 ·exact(o9.from_ (bs:=8) hlv (b0:=W.heap.size+1) (by omega)).mono (Zde (by omega) (VLe.refl _) hg10 hzz)
def zeroC:Crt:=⟨⟨0,0,[],[]⟩,[]⟩
def insE(l:List Crt)(c:Crt):Int:=if dagF hD cF l≠0 then dagF hD cF l else if cF c≠0 then cF c else if Zhx l c.hdr then 7 else if parF l (dsOf hD l) c.hdr≠0 then parF l (dsOf hD l) c.hdr else if 400≤l.length then 6 else 0
def insL(l:List Crt)(c:Crt):List Crt:=if insE l c=0 then l++[c]else []
theorem RCrts.nil(h:View):RCrts h (.slice none 0 0) []:=⟨none,0,rfl,Nat.le_refl _,Nat.zero_le _,by simp,fun _=>rfl,fun h=>by simp at h⟩
theorem Zsw(l:List Crt)(ds:List (List UInt8))(h:Hdr):parF l ds h=if Zgf l ds h then 9 else if (Zgg ds h).length=0 then 0 else 8:=rfl
theorem Znb(w:World)(c1 c2 c3:Array Value)(t1 t2 t3:TypeId)(R:World→Prop)(h:∀W,Blk W w.heap.size t1 c1→Blk W (w.heap.size+1) t2 c2→Blk W (w.heap.size+2) t3 c3→w.heap.size+3≤W.heap.size→Below w.heap.size w W→R W):R (((w.alloc (.cells c1 t1)).alloc (.cells c2 t2)).alloc (.cells c3 t3)):=by
 refine h _ (((Blk.new w t1 c1).alloc _).alloc _) ?_ ?_ (by simp) ((((Below.refl _ _).alloc (Nat.le_refl _) _).alloc (Zau _ (Nat.le_refl _)) _).alloc (Zau _ (Zau _ (Nat.le_refl _))) _)
 ·have:=(Blk.new (w.alloc (.cells c1 t1)) t2 c2).alloc (.cells c3 t3);simpa using this
 ·have:=Blk.new ((w.alloc (.cells c1 t1)).alloc (.cells c2 t2)) t3 c3;simpa using this
theorem Zid(vl:Value)(l:List Crt)(x:Crt)(vb vp vv:Value)(w:World)(hl:RCrts w.cell? vl l)(hb:RDigs w.cell? vb x.hdr.batches)(hp:RDigs w.cell? vp x.hdr.parents)(hv:RIs w.cell? vv x.voters)(hT:Tabs w.cell?) :
 Calls Tryz.prog 150 #[.agg #[vl],.agg #[.int .i64 x.hdr.author,.int .i64 x.hdr.round,vb,vp,vv]] w fun e w'=>∃d,e=.returned (.tuple #[.agg #[d],.int .i64 (insE l x)])∧Below w.heap.size w w'∧OwnSl 5 (RFrom w.heap.size RCrt) 64 w' w.heap.size d (insL l x):=by
 obtain⟨A,c,rfl,hf0⟩:=id hl;obtain⟨bA,bc,rfl,hf1⟩:=id hb;obtain⟨pA,pc,rfl,hf2⟩:=id hp;obtain⟨vA,vc,rfl,hf3⟩:=id hv;clear hf0 hf1 hf2 hf3;obtain⟨QE,hQE⟩:∃q,Hid (insE l x=q):=⟨_,rfl⟩;obtain⟨QL,hQL⟩:∃q,Hid (insL l x=q):=⟨_,rfl⟩;have hE0:Hid (QE=if dagF hD cF l≠0 then dagF hD cF l else if cF x≠0 then cF x else if Zhx l x.hdr then 7 else if parF l (dsOf hD l) x.hdr≠0 then parF l (dsOf hD l) x.hdr else if 400≤l.length then 6 else 0):=hQE.out.symm;have hL0:Hid (QL=if QE=0 then l++[x]else []):=by show _=_;rw[←hQL.out];unfold insL;rw[hQE.out]
 have hvalid:Hid (dagF hD cF l=0→l.length≤400∧(∀c∈l,hF c.hdr=0)):=Zic;have hcert:Hid (cF x=0→1≤x.hdr.round∧x.hdr.round≤1048576):=fun h0=>by obtain⟨a,b,_⟩:=headF_zero (Zv1 h0);exact⟨a,b⟩
 rw[hQE.out,hQL.out];clear hQE hQL;obtain⟨E1,hE1⟩:∃q,Hid (dagF hD cF l=q):=⟨_,rfl⟩;obtain⟨E2,hE2⟩:∃q,Hid (cF x=q):=⟨_,rfl⟩;rw[hE1.out,hE2.out]at hE0;rw[hE1.out]at hvalid;rw[hE2.out]at hcert
 have bad:∀(w1:World) (v:Int) (hne:v≠0) (hE:Hid (QE=v)) (hB:Blk w1 (w.heap.size+2) 49 #[.slice none 0 0]) (hbl:Below w.heap.size w w1),Hid (∃d,Ending.returned (.tuple #[.agg #[.slice none 0 0],.int .i64 v])=Ending.returned (.tuple #[.agg #[d],.int .i64 QE])∧Below w.heap.size w w1∧OwnSl 5 (RFrom w.heap.size RCrt) 64 w1 w.heap.size d QL):=fun w1 v hne hE hB hbl =>
  ⟨_,by rw[hE.out],hbl,by rw[hL0.out,if_neg (by rw[hE.out];exact hne)];exact OwnSl.nil _ _ _ _ _⟩
 go_enter Tryz.func150,Tryz.ntmps150
 go_upto_region 1 with fail
 refine Znb _ _ _ _ _ _ _ (fun W=>Code.wp _ _ _ _ W) (fun W hk1 hk2 hk3 hsz hbW=>?_);have g0:=hk1.cell 0;simp at g0
 go_wp2_with fail
 refine(Zfb _ l _ (hl.mono RCrt.mono (Zaa hbW)) (hT.mono (Zaa hbW))).mono ?_;rintro e w1 ⟨rfl,hb1⟩;rw[hE1.out];have hbl1:=hbW.trans (hb1.mono hbW.size);have hk11:=hk1.kept hb1;have hk21:=hk2.kept hb1;have hk31:=hk3.kept hb1;have hz1:=hbl1.size;clear g0
 by_cases h1:E1=0
 rotate_left
 ·have HE:Hid (QE=E1):=by show _=_;rw[hE0.out];simp[h1]
  go_wp2_with (refine Zj 1 hk31 ?_)
  intro w2 hB2 hg2;have hfin:=bad w2 E1 h1 HE hB2 (Zab hbl1 hz1 hg2 (by intro k e;injection e;omega));clear hE0 hL0 bad;go_wp2;refine bodyPost_ret (Zal rfl rfl (by kernel_rfl) (by kernel_rfl) hB2 rfl) rfl ?_;exact hfin.out
 have hv0:=Lib.hid (hvalid.out h1);have hE0:Hid (QE=if E2≠0 then E2 else if Zhx l x.hdr then 7 else if parF l (dsOf hD l) x.hdr≠0 then parF l (dsOf hD l) x.hdr else if 400≤l.length then 6 else 0):=by show _=_;rw[hE0.out];simp[h1]
 clear hvalid hE1;subst h1;have q1:=Zaa hbl1;have g0:=hk21.cell 0;have g1:=hk21.cell 1;have g2:=hk21.cell 2;have g3:=hk21.cell 3;have g4:=hk21.cell 4;simp at g0 g1 g2 g3 g4
 go_wp2_with fail
 refine(Zek _ _ _ _ _ x.hdr.batches x.hdr.parents x.voters _ (hb.mono RDig.mono q1) (hp.mono RDig.mono q1) (hv.mono q1)).mono ?_;rintro e w2 ⟨rfl,hb2⟩;rw[show Zg4 x.hdr.author x.hdr.round x.hdr.batches x.hdr.parents x.voters=E2 from hE2.out];have hbl2:=hbl1.trans (hb2.mono hz1);have hk12:=hk11.kept hb2;have hk22:=hk21.kept hb2;have hk32:=hk31.kept hb2;have hz2:=hbl2.size;clear g0 g1 g2 g3 g4 q1 hk11 hk21 hk31
 by_cases h2:E2=0
 rotate_left
 ·have HE:Hid (QE=E2):=by show _=_;rw[hE0.out];simp[h2]
  go_wp2_with (refine Zj 1 hk32 ?_)
  intro wz hBz hgz;have hfin:=bad wz E2 h2 HE hBz (Zab hbl2 hz2 hgz (by intro k e;injection e;omega));clear bad hL0 hE0;go_wp2;refine bodyPost_ret (Zal rfl rfl (by kernel_rfl) (by kernel_rfl) hBz rfl) rfl ?_;exact hfin.out
 have hr:=Lib.hid (hcert.out h2);have hE0:Hid (QE=if Zhx l x.hdr then 7 else if parF l (dsOf hD l) x.hdr≠0 then parF l (dsOf hD l) x.hdr else if 400≤l.length then 6 else 0):=by show _=_;rw[hE0.out];simp[h2]
 clear hcert hE2;subst h2;have hl2:=hl.mono RCrt.mono (Zaa hbl2);have d0:=hk12.cell 0;have g0:=hk22.cell 0;have g1:=hk22.cell 1;have g2:=hk22.cell 2;have g3:=hk22.cell 3;simp at d0 g0 g1 g2 g3
 go_wp2_with fail
 refine(Zif _ l x.hdr _ _ _ hl2).mono ?_;rintro e w3 ⟨rfl,hb3⟩;have hbl3:=hbl2.trans (hb3.mono hz2);have hk13:=hk12.kept hb3;have hk23:=hk22.kept hb3;have hk33:=hk32.kept hb3;have hz3:=hbl3.size;obtain⟨TK,hTK⟩:∃q,Hid (Zhx l x.hdr=q):=⟨_,rfl⟩;rw[hTK.out];rw[hTK.out]at hE0;clear d0 g0 g1 g2 g3 hTK hk12 hk22 hk32;cases TK
 rotate_left
 ·have HE:Hid (QE=7):=by show _=_;rw[hE0.out];rfl
  go_wp2_with (refine Zj 1 hk33 ?_)
  intro wz hBz hgz;have hfin:=bad wz 7 (by decide) HE hBz (Zab hbl3 hz3 hgz (by intro k e;injection e;omega));clear bad hL0 hE0;go_wp2;refine bodyPost_ret (Zal rfl rfl (by kernel_rfl) (by kernel_rfl) hBz rfl) rfl ?_;exact hfin.out
 have hE0:Hid (QE=if parF l (dsOf hD l) x.hdr≠0 then parF l (dsOf hD l) x.hdr else if 400≤l.length then 6 else 0):=by show _=_;rw[hE0.out];rfl
 have hl3:=hl.mono RCrt.mono (Zaa hbl3);have hp3:=hp.mono RDig.mono (Zaa hbl3);have hT3:=hT.mono (Zaa hbl3)
 go_wp2_with fail
 go_cut [8,9] (fun v8 v9 w'=>∃nA nc,v8=.slice nA (Zgg (dsOf hD l) x.hdr).length nc∧v9=.bool (Zgf l (dsOf hD l) x.hdr)∧Below w3.heap.size w3 w')
 case first =>
  refine Zr [12] (.q 0 (.q 1 (.q 2 (.q 3 (.q 5 (.q 6 (.l 4 (.l 7 (.q 8 (.q 9 (.q 10 (.q 11 (.qc 12 .nil))))))))))))) fun W4 hS4=>?_
  repeat((first|refine pq (h:=⟨_,fun w' hS=>by(have hq:=hk13.kept hS;have h0:=hq.cell 0;have hh:=hk23.kept hS;have p0:=hh.cell 0;have p1:=hh.cell 1;have p2:=hh.cell 2;have p3:=hh.cell 3;simp at h0 p0 p1 p2 p3;go_simp;exact rfl),?_⟩)|refine Zq ?_);simp only[sx])
  refine Zd fun K hK=>?_
  try simp only[sy]
  go_simp;refine(Zq1 _ l _ (hl3.mono RCrt.mono (Zaa hS4)) hv0.out.2 (hT3.mono (Zaa hS4))).mono ?_;rintro e w4 ⟨vd,rfl,hb4,od⟩;have hS5:=hS4.trans (hb4.mono hS4.size);have rD:=RDigs.of_own od (by rw[Zgx];have:=hv0.out.1;omega);have hlen:(dsOf hD l).length≤l.length:=by rw[Zgx];omega
  clear od;obtain⟨Ds,hDs⟩:∃Ds,Hid (dsOf hD l=Ds):=⟨_,rfl⟩;rw[hDs.out]at rD hlen;obtain⟨dA,dc,rfl,hfd⟩:=id rD;clear hfd;refine hK.out _ _ (hS5) fun hS=>?_
  clear hK K
  try simp only[sx]
  repeat((first|refine pq (h:=⟨_,fun w' hS=>by(have hh:=hk23.kept hS;have p0:=hh.cell 0;have p1:=hh.cell 1;have p2:=hh.cell 2;have p3:=hh.cell 3;simp at p0 p1 p2 p3;go_simp;exact rfl),?_⟩)|refine Zq ?_);simp only[sx])
  refine Zd fun K hK=>?_
  try simp only[sy]
  go_simp;refine(Zhi _ _ l Ds x.hdr _ _ _ (hl3.mono RCrt.mono (Zaa hS5)) rD (hp3.mono RDig.mono (Zaa hS5)) hlen hr.out.1 hr.out.2).mono ?_;rintro e w5 ⟨v5,rfl,hb5,o5⟩;have hS6:=hS5.trans (hb5.mono hS5.size);obtain⟨A5,c5,rfl⟩:=o5.form;clear o5 rD;refine hK.out _ _ (hS6) fun hS=>?_
  clear hK K
  try simp only[sx]
  repeat(refine Zq ?_;simp only[sx])
  refine Zah ?_
  go_wp2_with fail
  go_meet;exact⟨A5,c5,by rw[hDs.out],by rw[hDs.out],hS6⟩
 case rest =>
  obtain⟨nA,nc,rfl,rfl,hb4⟩:=hcut;have hbl4:=hbl3.trans (hb4.mono hz3);have hk14:=hk13.kept hb4;have hk24:=hk23.kept hb4;have hk34:=hk33.kept hb4;have hz4:=hbl4.size
  have hE0:Hid (QE=if Zgf l (dsOf hD l) x.hdr then 9 else if (Zgg (dsOf hD l) x.hdr).length=0 then(if 400≤l.length then 6 else 0)else 8):=by
   show _=_;rw[hE0.out,Zsw];cases Zgf l (dsOf hD l) x.hdr
   ·simp only[Bool.false_eq_true,if_false]
    by_cases hz:(Zgg (dsOf hD l) x.hdr).length=0
    ·rw[if_pos hz,if_pos hz];rfl
    ·rw[if_neg hz,if_neg hz];rfl
   ·rfl
  have hl5:=Lib.hid hv0.out.1;generalize Zgf l (dsOf hD l) x.hdr=MW at *;generalize (Zgg (dsOf hD l) x.hdr).length=nl at *;clear hk13 hk23 hk33 hl3 hp3 hT3 hl2;cases MW
  rotate_left
  ·have HE:Hid (QE=9):=by show _=_;rw[hE0.out];rfl
   go_wp2_with (refine Zj 1 hk34 ?_)
   intro wz hBz hgz;have hfin:=bad wz 9 (by decide) HE hBz (Zab hbl4 hz4 hgz (by intro k e;injection e;omega));clear bad hL0 hE0;go_wp2;refine bodyPost_ret (Zal rfl rfl (by kernel_rfl) (by kernel_rfl) hBz rfl) rfl ?_;exact hfin.out
  by_cases hn0:nl=0
  rotate_left
  ·have HE:Hid (QE=8):=by show _=_;rw[hE0.out];simp[hn0]
   have hn0':(0:Int)<nl:=by omega
   clear hn0
   go_wp2_with (refine Zj 1 hk34 ?_)
   intro wz hBz hgz;have hfin:=bad wz 8 (by decide) HE hBz (Zab hbl4 hz4 hgz (by intro k e;injection e;omega));clear bad hL0 hE0;go_wp2;refine bodyPost_ret (Zal rfl rfl (by kernel_rfl) (by kernel_rfl) hBz rfl) rfl ?_;exact hfin.out
  have hE9:Hid (QE=if 400≤l.length then 6 else 0):=by show _=_;rw[hE0.out];simp[hn0]
  clear hE0;subst hn0;have d0:=hk14.cell 0;simp at d0
  by_cases hful:l.length=400
  ·have HE:Hid (QE=6):=by show _=_;rw[hE9.out,if_pos (by omega)]
   have hful':(l.length:Int)=400:=by omega
   clear hE9;obtain⟨nl,hnl⟩:∃n,Hid (l.length=n):=⟨_,rfl⟩;rw[hnl.out]at d0 hful hful';subst hful;rw[hnl.out]
   go_wp2_with (refine Zj 1 hk34 ?_)
   intro wz hBz hgz;have hfin:=bad wz 6 (by decide) HE hBz (Zab hbl4 hz4 hgz (by intro k e;injection e;omega));clear bad hL0;go_wp2;refine bodyPost_ret (Zal rfl rfl (by kernel_rfl) (by kernel_rfl) hBz rfl) rfl ?_;exact hfin.out
  have HE:Hid (QE=0):=by show _=_;rw[hE9.out,if_neg (by have:=hl5.out;omega)]
  have HL:Hid (QL=l++[x]):=by show _=_;rw[hL0.out,if_pos HE.out]
  have hful':¬(l.length:Int)=400:=by omega
  clear hE9 hL0 bad;have hszc:w.heap.size+3≤wc.heap.size:=by have:=hb1.size;have:=hb2.size;have:=hb3.size;have:=hb4.size;omega
  obtain⟨_,hn1,hn2,hel⟩:=RCrts.at (hl.mono RCrt.mono (Zaa hbl4));have Hel:=Lib.hid hel;clear hel hsz;have hb5':=hb.mono RDig.mono (Zaa hbl4);have hp5':=hp.mono RDig.mono (Zaa hbl4);have hv5':=hv.mono (Zaa hbl4);clear hk1 hk2 hk3 hbl1 hbl2 hbl3 hb1 hb2 hb3 hb4 hz1 hz2 hz3 hT hv0 hr
  go_upto_region 17 with fail
  refine Zo fun WD hD0 hsD hbD=>?_
  have hzD:wc.heap.size+1≤WD.heap.size:=by omega
  clear d0;have d0:=(hk14.kept hbD).cell 0;simp at d0;clear hsD
  go_wp2_with fail
  go_loopw [12,59] (fun _ i wr=>∃k:Nat,k≤l.length∧i=.int .i64 k∧∃v',Blk wr wc.heap.size 49 #[v']∧OwnSl 5 (RFrom (wc.heap.size+1) RCrt) 64 wr (wc.heap.size+1) v' (l.take k)∧Below wc.heap.size wc wr∧wc.heap.size+1≤wr.heap.size) (fun _ i _=>l.length-(intOf i).toNat)
  case atStart=>exact⟨0,Nat.zero_le _,rfl,_,hD0,OwnSl.nil _ _ _ _ _,hbD,hzD⟩
  case round =>
   clear hD0 hbD hzD;obtain⟨k,hk,rfl,v',hB,hown,hbl,hz⟩:=hrel;have hbs:=hbl.size
   by_cases hlt:k<l.length
   ·clear d0;obtain⟨b0,o0,ub,up,uv,rfl,q0,q1,q2,q3,q4,rb,rp,rv⟩:=Hel.out k hlt;have c0:=Zaa hbl _ _ q0;have c1:=Zaa hbl _ _ q1;have c2:=Zaa hbl _ _ q2;have c3:=Zaa hbl _ _ q3;have c4:=Zaa hbl _ _ q4;have rb':=rb.mono RDig.mono (Zaa hbl);have rp':=rp.mono RDig.mono (Zaa hbl);have rv':=rv.mono (Zaa hbl);have Hn:=Lib.hid (List.take_succ_eq_append_getElem hlt);have Hlk:=Lib.hid (show(l.take k).length=k by simp;omega);obtain⟨E1A,E1c,rfl,hg1⟩:=id rb;obtain⟨E2A,E2c,rfl,hg2⟩:=id rp;obtain⟨E3A,E3c,rfl,hg3⟩:=id rv;clear q0 q1 q2 q3 q4 rb rp rv hg1 hg2 hg3;generalize l.take k=L at hown Hn Hlk;generalize l[k]=y at *;have g0:=(hk14.kept hbl).cell 0;simp at g0
    go_upto_region 20 with fail
    refine Zo fun W2 hX hsX hbX=>?_
    have hbX2:=hbl.trans (hbX.mono hbs);have hB2:=hB.kept hbX;have hown2:=hown.kept (RFrom.mono RCrt.mono) hbX;have hlto:=hown.lt;have rb2:=rb'.mono RDig.mono (Zaa hbX);have rp2:=rp'.mono RDig.mono (Zaa hbX);have rv2:=rv'.mono (Zaa hbX);have hzX:=hbX.size;obtain⟨nA,nc,rfl⟩:=hown2.form;clear c0 c1 c2 c3 c4 g0 rb' rp' rv' hsX hB hown;refine Zt (fun w'=>Below W2.heap.size W2 w') (fun w'=>Blk w' wc.heap.size 49 #[.slice nA L.length nc]∧Blk w' wr.heap.size 64 #[.int .i64 y.hdr.author,.int .i64 y.hdr.round,.slice E1A y.hdr.batches.length E1c,.slice E2A y.hdr.parents.length E2c,.slice E3A y.voters.length E3c]) [6,7] (.q 0 (.q 1 (.q 2 (.l 3 (.l 4 (.l 5 (.qc 6 (.l 7 .nil)))))))) ?_ ?_
    ·exact⟨Zad _,hB2.kept (Zad _),hX.kept (Zad _)⟩
    intro W3 hS3 hS0
    repeat((first|refine pq (h:=⟨_,fun w' hS=>by(have hq:=hS.1;have h0:=hq.cell 0;have hx:=hS.2;have x0:=hx.cell 0;have x1:=hx.cell 1;have x2:=hx.cell 2;have x3:=hx.cell 3;have x4:=hx.cell 4;simp at h0 x0 x1 x2 x3 x4;go_simp;exact rfl),?_⟩)|refine Zq ?_);simp only[sx])
    refine Zd fun K hK=>?_
    try simp only[sy]
    go_simp;refine(Zmw _ _ _ _ _ y.hdr.batches y.hdr.parents y.voters _ (rb2.mono RDig.mono (Zaa hS3)) (rp2.mono RDig.mono (Zaa hS3)) (rv2.mono (Zaa hS3))).mono ?_;rintro e w4 ⟨tb,tp,tv,rfl,hb4,s1,s2,s3⟩;have hS4:=hS3.trans (hb4.mono hS3.size);obtain⟨A1,c1',rfl,hf1⟩:=id s1;obtain⟨A2,c2',rfl,hf2⟩:=id s2;obtain⟨A3,c3',rfl,hf3⟩:=id s3;clear hf1 hf2 hf3;have hown4:=hown2.kept (RFrom.mono RCrt.mono) hS4;have hB4:=hB2.kept hS4;have hX4:=hX.kept hS4;have hz4':=hS4.size;refine hK.out _ _ (⟨hB4,hX4⟩) fun hS=>?_
    clear hK K
    try simp only[sx]
    repeat(refine Zq ?_;simp only[sx])
    refine Zd fun K hK=>?_
    try simp only[sy]
    go_simp;have hb5:=Zac w4 (.cells #[.int .i64 y.hdr.author,.int .i64 y.hdr.round,.slice A1 y.hdr.batches.length c1',.slice A2 y.hdr.parents.length c2',.slice A3 y.voters.length c3'] 64);refine hK.out _ _ (⟨hB4.kept hb5,hX4.kept hb5⟩) fun hS=>?_
    clear hK K
    try simp only[sx]
    repeat(refine Zq ?_;simp only[sx])
    refine Zd fun K hK=>?_
    try simp only[sy]
    have rR:RFrom (wc.heap.size+1) RCrt (View.but w4.cell? (Value.slice nA L.length nc).ownBlock) [.int .i64 y.hdr.author,.int .i64 y.hdr.round,.slice A1 y.hdr.batches.length c1',.slice A2 y.hdr.parents.length c2',.slice A3 y.voters.length c3'] y:=by
     have q:VLe (View.from w4.cell? W3.heap.size) (View.from (View.but w4.cell? (Value.slice nA L.length nc).ownBlock) (wc.heap.size+1)):=Zbb (by have:=hS3.size;omega) (fun g hg=>by have:=(hlto g hg).2;have:=hS3.size;omega);exact⟨_,_,_,rfl,s1.mono RDig.mono q,s2.mono RDig.mono q,s3.mono q⟩
    refine Zbg (n:=140737488355328) (RFrom.mono RCrt.mono) y [.int .i64 y.hdr.author,.int .i64 y.hdr.round,.slice A1 y.hdr.batches.length c1',.slice A2 y.hdr.parents.length c2',.slice A3 y.voters.length c3'] Zk7 _ _ rfl rfl hown4 (W:=w4) (Below.refl _ _) (by omega) rfl rfl rfl rfl rR (Nat.le_refl _) (by rw[Hlk.out];omega) (by rw[Hlk.out];omega) (fun v2 w6 ho6 hb6 hg6=>?_);have hB6:=hB4.grown hg6 (hown4.low_ne (by omega));have hX6:=hX4.grown hg6 (fun e=>by have:=(hlto _ e.symm).2;omega);have hLl:(L++[y]).length=k+1:=by rw[List.length_append,Hlk.out];rfl
    obtain⟨mA,mc,hv2⟩:=ho6.form;rw[hLl]at hv2;subst hv2;rw[←Hn.out]at ho6;refine hK.out _ _ (⟨hB6,hX6⟩) fun hS=>?_
    clear hK K
    try simp only[sx]
    repeat(refine Zq ?_;simp only[sx])
    refine Zc fun K hK=>?_
    try simp only[sy]
    refine Zav (n:=1) rfl rfl rfl (by kernel_rfl) rfl hB6 (by simp) rfl ?_;intro w7 hB7 hg7;have hB7:Blk w7 wc.heap.size 49 #[.slice mA (k+1) mc]:=hB7;have ho7:=ho6.low RCrt.mono hg7 (by omega);have hzz:=hbX2.size;have hbl6:Below wc.heap.size wc w6:=Zab (hbX2.trans (hS4.mono hbX2.size)) (by omega) hg6 (fun q hq=>by have:=(hlto q hq).1;omega);have hbl7:Below wc.heap.size wc w7:=Zab hbl6 hbl6.size hg7 (by intro q e;injection e;omega);have hz7:wc.heap.size+1≤w7.heap.size:=by have:=hg6.size;have:=hg7.size;omega
    refine hK.out _ _ ?_;clear hK K
    try simp only[sx]
    repeat(refine Zq ?_;simp only[sx])
    refine Zah ?_;clear hB4 hX4 hB6 hX6 hown4 ho6 rR hb5 hS3 hS4 hown2 hB2 hX hg6 hg7;go_wp2;go_roundw
    case rel=>exact⟨k+1,by omega,by go_num,_,hB7,ho7,hbl7,hz7⟩
    case measure=>simp[intOf];omega
   ·have hkl:k=l.length:=by omega
    rw[hkl,List.take_length]at hown;have hkln:=hkl;obtain⟨nA,nc,rfl⟩:=hown.form;clear d0 Hel;have hk25:=hk24.kept hbl;have hk35:=hk34.kept hbl;have hlto:=hown.lt;have hbl5:=hbl4.trans (hbl.mono hz4)
    go_wp2_with fail
    refine Zt (fun w'=>Below wr.heap.size wr w') (fun w'=>Blk w' wc.heap.size 49 #[.slice nA l.length nc]∧Blk w' (w.heap.size+1) 64 #[.int .i64 x.hdr.author,.int .i64 x.hdr.round,.slice bA x.hdr.batches.length bc,.slice pA x.hdr.parents.length pc,.slice vA x.voters.length vc]) [6,7] (.q 0 (.q 1 (.q 2 (.l 3 (.l 4 (.l 5 (.qc 6 (.l 7 .nil)))))))) ?_ ?_
    ·exact⟨Zad _,hB.kept (Zad _),hk25.kept (Zad _)⟩
    intro W3 hS3 hS0
    repeat((first|refine pq (h:=⟨_,fun w' hS=>by(have hq:=hS.1;have h0:=hq.cell 0;have hx:=hS.2;have x0:=hx.cell 0;have x1:=hx.cell 1;have x2:=hx.cell 2;have x3:=hx.cell 3;have x4:=hx.cell 4;simp at h0 x0 x1 x2 x3 x4;go_simp;exact rfl),?_⟩)|refine Zq ?_);simp only[sx])
    refine Zd fun K hK=>?_
    try simp only[sy]
    go_simp;have hv3:=Zaa (hbl.trans (hS3.mono hbs));refine(Zmw _ _ _ _ _ x.hdr.batches x.hdr.parents x.voters _ (hb5'.mono RDig.mono hv3) (hp5'.mono RDig.mono hv3) (hv5'.mono hv3)).mono ?_;rintro e w4 ⟨tb,tp,tv,rfl,hb4,s1,s2,s3⟩;have hS4:=hS3.trans (hb4.mono hS3.size);obtain⟨A1,c1',rfl,hf1⟩:=id s1;obtain⟨A2,c2',rfl,hf2⟩:=id s2;obtain⟨A3,c3',rfl,hf3⟩:=id s3;clear hf1 hf2 hf3;have hown4:=hown.kept (RFrom.mono RCrt.mono) hS4;have hB4:=hB.kept hS4;have hX4:=hk25.kept hS4;have hz4':=hS4.size;refine hK.out _ _ (⟨hB4,hX4⟩) fun hS=>?_
    clear hK K
    try simp only[sx]
    repeat(refine Zq ?_;simp only[sx])
    refine Zd fun K hK=>?_
    try simp only[sy]
    go_simp;have hb5:=Zac w4 (.cells #[.int .i64 x.hdr.author,.int .i64 x.hdr.round,.slice A1 x.hdr.batches.length c1',.slice A2 x.hdr.parents.length c2',.slice A3 x.voters.length c3'] 64);refine hK.out _ _ (⟨hB4.kept hb5,hX4.kept hb5⟩) fun hS=>?_
    clear hK K
    try simp only[sx]
    repeat(refine Zq ?_;simp only[sx])
    refine Zd fun K hK=>?_
    try simp only[sy]
    have rR:RFrom (wc.heap.size+1) RCrt (View.but w4.cell? (Value.slice nA l.length nc).ownBlock) [.int .i64 x.hdr.author,.int .i64 x.hdr.round,.slice A1 x.hdr.batches.length c1',.slice A2 x.hdr.parents.length c2',.slice A3 x.voters.length c3'] x:=by
     have q:VLe (View.from w4.cell? W3.heap.size) (View.from (View.but w4.cell? (Value.slice nA l.length nc).ownBlock) (wc.heap.size+1)):=Zbb (by have:=hS3.size;omega) (fun g hg=>by have:=(hlto g hg).2;have:=hS3.size;omega);exact⟨_,_,_,rfl,s1.mono RDig.mono q,s2.mono RDig.mono q,s3.mono q⟩
    refine Zbg (n:=140737488355328) (RFrom.mono RCrt.mono) x [.int .i64 x.hdr.author,.int .i64 x.hdr.round,.slice A1 x.hdr.batches.length c1',.slice A2 x.hdr.parents.length c2',.slice A3 x.voters.length c3'] Zk7 _ _ rfl rfl hown4 (W:=w4) (Below.refl _ _) (by omega) rfl rfl rfl rfl rR (Nat.le_refl _) (by have:=hl5.out;omega) (by have:=hl5.out;omega) (fun v2 w6 ho6 hb6 hg6=>?_);have hB6:=hB4.grown hg6 (hown4.low_ne (by omega));have hX6:=hX4.grown hg6 (hown4.low_ne (by omega));obtain⟨N,hN⟩:∃N,Hid ((l++[x]).length=N):=⟨_,rfl⟩;obtain⟨mA,mc,hv2⟩:=ho6.form;rw[hN.out]at hv2;subst hv2;have hk36:=(hk35.kept hS4).grown hg6 (hown4.low_ne (by omega));refine hK.out _ _ (⟨hB6,hX6⟩) fun hS=>?_
    clear hK K
    try simp only[sx]
    repeat(refine Zq ?_;simp only[sx])
    refine Zc fun K hK=>?_
    try simp only[sy]
    refine Zav (n:=1) rfl rfl rfl (by kernel_rfl) rfl hB6 (by simp) rfl ?_;intro w7 hB7 hg7;have hB7:Blk w7 wc.heap.size 49 #[.slice mA N mc]:=hB7;have ho7:=ho6.low RCrt.mono hg7 (by omega);have hbl6:Below w.heap.size w w6:=Zab (hbl5.trans (hS4.mono hbl5.size)) (by have:=hbl5.size;omega) hg6 (fun q hq=>by have:=(hlto q hq).1;omega);have hbl7:Below w.heap.size w w7:=Zab hbl6 hbl6.size hg7 (by intro q e;injection e;omega);have hk37:=hk36.grown hg7 (by simp;omega);have d7:=hB7.cell 0;simp at d7;refine hK.out _ _ ?_;clear hK K
    try simp only[sx]
    repeat(refine Zq ?_;simp only[sx])
    refine Zah ?_;clear hB4 hX4 hB6 hX6 hown4 ho6 rR hb5 hS3 hS4 hg6 hg7 hk36 hk35 hk25 hown hB
    go_wp2_with (refine Zj 1 hk37 ?_)
    intro w8 hB8 hg8;have ho8:=ho7.low RCrt.mono hg8 (by omega);have hbl8:Below w.heap.size w w8:=Zab hbl7 hbl7.size hg8 (by intro q e;injection e;omega);have HEo:=HE.out;have HLo:=HL.out;go_wp2;refine bodyPost_ret (Zal rfl rfl (by kernel_rfl) (by kernel_rfl) hB8 rfl) rfl ?_;exact⟨_,by rw[HEo];rfl,hbl8,by rw[HLo];exact ho8.baseR RCrt.mono (by omega)⟩
def rndV(l:List Crt):Int:=if dagF hD cF l=0 then Zs1 l else 0
def digV(l:List Crt)(r:Int):List (List UInt8):=if dagF hD cF l=0 then dsOf hD (Zbu l r)else []
structure Slot where
 author:Int
 round:Int
 digest:List UInt8
def RSlot(h:View)(cs:List Value)(s:Slot):Prop:=∃d,cs=[.int .i64 s.author,.int .i64 s.round,d]∧Zao h d s.digest
def Zf7(au ro:Int)(l:Nat):Int:=if !inB au 0 3|| !inB ro 1 1048576 then 2 else if l≠32 then 4 else 0
theorem Zej(au ro:Int)(s:Option Addr)(l c:Nat)(w:World):Calls Tryz.prog 80 #[.agg #[.int .i64 au,.int .i64 ro,.slice s l c]] w fun e w'=>e=.returned (.int .i64 (Zf7 au ro l))∧Below w.heap.size w w':=by
 have hf:Zf7 au ro l=if !inB au 0 3|| !inB ro 1 1048576 then 2 else if l≠32 then 4 else 0:=rfl
 by_cases h3:l=32<;>cases ha:inB au 0 3<;>cases hb:inB ro 1 1048576
 all_goals
  try subst h3
  try simp only[ha,hb]at hf
  simp[*]at hf;have Hf:=Lib.hid hf;clear hf
  go_enter Tryz.func80,Tryz.ntmps80
  go_wp2_with (first|(go_at_call 62;refine(Za4 _ _).mono ?_;rintro e w' ⟨rfl,rfl⟩)|(go_at_call 63;refine(count_any _ _).mono ?_;rintro e w' ⟨rfl,rfl⟩))
  go_ret;exact⟨Zaj Hf.out.symm,(Below.refl _ _).alloc (Nat.le_refl _) _⟩
theorem RSlot.mono:Mono RSlot:=fun h h' cs x ⟨d,e,hd⟩ hle=>⟨d,e,hd.mono hle⟩
abbrev RSlots:=RSl 3 RSlot 40
theorem Zj4:Elem Tryz.prog 40 61 3 40:=Znz (z:=.agg #[.int .i64 0,.int .i64 0,.slice none 0 0]) Tryz.underlying40 (by kernel_rfl) rfl (by decide)
theorem RSlots.at{n:Nat}{xs:List Slot}(hr:RSlots h (.slice A n c) xs):n=xs.length∧n≤c∧n*40≤140737488355328∧∀k (hk:k<xs.length),∃b o d,A=some ⟨b,o,none⟩∧h ⟨b,o+k*3,none⟩=some (.int .i64 xs[k].author)∧h ⟨b,o+k*3+1,none⟩=some (.int .i64 xs[k].round)∧h ⟨b,o+k*3+2,none⟩=some d∧Zao h d xs[k].digest:=by
 obtain⟨A',c',e,h1,_,h2,_,h3⟩:=hr;injection e with e1 e2 e3;subst e1 e2 e3;refine⟨rfl,h1,h2,fun k hk=>?_⟩;obtain⟨b,o,ea,hc⟩:=h3 (by omega);obtain⟨cs,hl,hcell,d,rfl,hd⟩:=hc k hk;exact⟨b,o,d,ea,hcell 0 (by omega),hcell 1 (by omega),hcell 2 (by omega),hd⟩
end Go.Proofs.YtinibgklgehdpaaGreatDoor
