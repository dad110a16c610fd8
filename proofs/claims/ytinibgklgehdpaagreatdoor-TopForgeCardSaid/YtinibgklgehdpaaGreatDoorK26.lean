/- A part of what the last text stands on. -/
import Derived.Laws.Strings
import Derived.Test.YtinibgklgehdpaaGreatDoorK07
import Derived.Test.YtinibgklgehdpaaGreatDoorK09
import Derived.Test.YtinibgklgehdpaaGreatDoorK16
import Derived.Test.YtinibgklgehdpaaGreatDoorK25
namespace Go.Proofs.YtinibgklgehdpaaGreatDoor
open Go.ChangeShapes Go.WideShapes Go.ChangeAt Go.RowKit Qa Qb Qc
set_option linter.all false
set_option maxHeartbeats 20000000
set_option maxRecDepth 100000
variable{w:World}{v:Value}{A:Option Addr}{h:View}{e:TypeId}{k sz bs c:Nat}{n:Fl.Nd}{α:Type}{xs:List α}{R:View→List Value→α→Prop}{l:List Crt}
namespace Fl
theorem Zh5{x:Hdr}{vb vp:Value}(r1:RDigs h vb x.batches)(r2:RDigs h vp x.parents):RMsg h (offM x) (.slice none 0 0) vb vp (.slice none 0 0) (.slice none 0 0) (.slice none 0 0) (.slice none 0 0) :=
 ⟨RVec.nil _ _ _,r1,r2,RVec.nil _ _ _,RDigs.nil _,RDigs.nil _,RVec.nil _ _ _⟩
structure KeepO (n m:Nd):Prop where
 kn:KeepN n m
 own:m.own=n.own
 voters:m.voters=n.voters
theorem KeepO.send{n m:Nd}(h:KeepO n m)(tw:Int)(x:Msg):KeepO n (send m tw x):=by
 refine⟨h.kn.send tw x,?_,?_⟩
 ·unfold Fl.send;split<;>exact h.own
 ·unfold Fl.send;split<;>exact h.voters
theorem Zwb(hk:k<4):all4.take (k+1)=all4.take k++[(k:Int)]:=by
 unfold all4
 rcases k with _|_|_|_|k<;>first|rfl|omega
theorem Zwc(i tb g off:Nat)(n:Nd)(h:Hdr)(o:Own)(w:World)(hl:Lim o w)(hi:i<5)(hN:NodeAt o w i tb g off n)(hown:n.own=some h)(h5:n.voters.length≤5)(h4:n.out.length≤400)(h8:n.digs.length≤800)(hbd:n.digs.length≤n.bats.length)(h9:n.bats.length≤800) :
 Calls Tryz.prog 158 #[.pointer (some ⟨g,off,none⟩)] w fun e w'=>e=.returned (.tuple #[])∧∃o',NFr i tb g off o w o' w'∧NodeAt o' w' i tb g off (again n):=by
 obtain⟨QR,hQR⟩:∃q,Hid (again n=q):=⟨_,rfl⟩;have HQ:Hid (QR=all4.foldl (Zeg h) n):=by show _=_;rw[←hQR.out];unfold again;rw[hown]
 rw[hQR.out];have H4:=Lib.hid h4;have H5:=Lib.hid h5;have H8:=Lib.hid h8;have HB:=Lib.hid hbd;have H9:=Lib.hid h9;have Hown:=Lib.hid hown;clear h4 h5 h8 hbd h9 hown
 go_enter Tryz.func158,Tryz.ntmps158
 go_wp2_with fail
 go_loopw [2,4,5,6,23] (fun _ _ _ j _ wr=>∃(k:Nat) (o':Own) (m:Nd),k≤4∧j=.int .i64 k∧Hid (m=(all4.take k).foldl (Zeg h) n)∧NFr i tb g off o w o' wr∧NodeAt o' wr i tb g off m∧KeepO n m) (fun _ _ _ j _ _=>4-(intOf j).toNat)
 case atStart=>exact⟨0,o,n,Nat.zero_le _,rfl,rfl,NFr.refl hl,hN,⟨KeepN.refl H4.out,rfl,rfl⟩⟩
 case round =>
  obtain⟨k,o1,m,hk4,rfl,hm,F1,N1,K1⟩:=hrel
  by_cases hlt:k<4
  ·have hltI:(k:Int)<4:=by omega
   have l1:=F1.fr.lim
   have hstep:Hid ((all4.take (k+1)).foldl (Zeg h) n=Zeg h m (k:Int)):=by
    show _=_;rw[Zwb hlt,List.foldl_append,←hm.out];rfl
   obtain⟨hm2,⟨ytx,yba,ydi,yta,yda,yow,ymi,yvo,ytp,you⟩,S2,R2⟩:=id N1;have hvr:=Zrh (R2.vo.reads (bs:=8) RI.mono (by rw[K1.voters];have:=H5.out;omega));have s8:=S2.nd8;have s10:=S2.nd10;have row:=R2.ow;rw[K1.own,Hown.out]at row;obtain⟨ob,ovb,ovp,hyow,c0,c1,c2,c3,rbX,rpX⟩:=row;have hyow:yow=.pointer (some ⟨ob,0,none⟩):=hyow;subst hyow;simp only at s8 s10 hvr;obtain⟨vA,vcp,rfl,_⟩:=id hvr;obtain⟨bA,bc,rfl,hfb⟩:=id rbX;have c2':=Zag _ _ _ _ c2;obtain⟨QV,hQV⟩:∃q,Hid (decide ((k:Int)∈m.voters)=q):=⟨_,rfl⟩;clear hfb c0 c1 c2 c3 hm2
   go_wp2_with fail
   refine(Zgj _ m.voters (k:Int) _ hvr).mono ?_;rintro e w2 ⟨rfl,rfl⟩;rw[hQV.out];cases QV
   rotate_left
   ·have hm3:Hid (m=(all4.take (k+1)).foldl (Zeg h) n):=by
     show _=_;rw[hstep.out];unfold Zeg;rw[if_pos (by simpa using hQV.out)]
    clear hstep S2 R2 s8 s10 hvr c2' rbX rpX;go_wp2;go_roundw
    case rel=>exact⟨k+1,o1,m,by omega,by go_num,hm3,F1,N1,K1⟩
    case measure=>simp[intOf]<;>omega
   have hnv:Hid ((k:Int)∉m.voters):=by show ¬_;simpa using hQV.out
   clear hQV;have s0:=S2.nd0
   go_wp2_with fail
   obtain⟨wo,hwo⟩:∃wo:World,wo=w2:=⟨_,rfl⟩;subst hwo;have hB24:h.batches.length*24≤140737488355328:=(RDigs.at rbX).2.2.1
   go_loopw [4,5,23] (fun _ _ j wr=>∃(q:Nat) (o':Own) (m':Nd),q≤h.batches.length∧j=.int .i64 q∧Hid (m'=(h.batches.take q).foldl (sendB (k:Int)) m)∧NFr i tb g off o w o' wr∧NodeAt o' wr i tb g off m'∧KeepO n m'∧VLe (Zas o1 wo) (Zas o' wr)) (fun _ _ j _=>h.batches.length-(intOf j).toNat)
   case atStart=>exact⟨0,o1,m,Nat.zero_le _,rfl,rfl,F1,N1,K1,fun a v h=>h⟩
   case round =>
    clear N1 F1 l1 S2 R2 s0 s8 s10 hvr c2';obtain⟨q,o2,m2,hq,rfl,hm2,F2,N2,K2,hvw⟩:=hrel;have l2:=F2.fr.lim;have rbY:=rbX.mono RDig.mono hvw
    by_cases hqlt:q<h.batches.length
    ·have hqltI:(q:Int)<h.batches.length:=by omega
     obtain⟨-,-,-,hel⟩:=RDigs.at rbY;obtain⟨b3,o3,d3,hA3,t0,r0⟩:=hel q hqlt;subst hA3;have t0':=Zag _ _ _ _ t0;have hst:=Lib.hid (show(h.batches.take (q+1)).foldl (sendB (k:Int)) m=sendB (k:Int) ((h.batches.take q).foldl (sendB (k:Int)) m) h.batches[q] by rw[List.take_succ_eq_append_getElem hqlt,List.foldl_append];rfl);obtain⟨xA,xc,rfl,hfd⟩:=id r0;clear hfd hel t0;generalize h.batches[q]=D at *
     go_wp2_with fail
     refine(Zgt i tb g off m2 _ D o2 _ N2 (r0.mono (Zag _ _)) (by rw[K2.kn.digs];exact H8.out)).mono ?_;rintro e w5 ⟨rfl,hb5⟩;have N5:=N2.below l2 hb5;have F5:=F2.below hb5;have l5:=Zam l2 hb5;have v5:=Zae l2 hb5;have hvw5:=hvw.trans v5
     rcases Zfl (·==D) m2.digs with ⟨p1,-⟩|⟨a,ha,p1,-,-⟩
     ·rw[show held m2 D= -1 from p1]
      have hm3:Hid (m2=(h.batches.take (q+1)).foldl (sendB (k:Int)) m):=by
       show _=_;rw[hst.out,←hm2.out];unfold sendB;rw[show held m2 D= -1 from p1,if_neg (by omega)]
      clear p1 hst N2 F2 l2 rbY t0' r0;go_wp2;go_roundw
      case rel=>exact⟨q+1,o2,m2,by omega,by go_num,hm3,F5,N5,K2,hvw5⟩
      case measure=>simp[intOf]<;>omega
     ·rw[show held m2 D=(a:Int) from p1];have had:a<m2.digs.length:=ha;have hab:a<m2.bats.length:=by have:=HB.out;rw[K2.kn.digs]at had;rw[K2.kn.bats];omega
      have hm3:Hid ((h.batches.take (q+1)).foldl (sendB (k:Int)) m=send m2 (k:Int) (batM m2.bats[a])):=by
       show _=_;rw[hst.out,←hm2.out];unfold sendB;rw[show held m2 D=(a:Int) from p1,if_pos (by omega)];simp[hab]
      have hbl8:m2.bats.length≤800:=by rw[K2.kn.bats];exact H9.out
      clear p1 hst N2 F2 l2 rbY t0' r0 ha had;obtain⟨hmk5,⟨ztx,zba,zdi,zta,zda,zow,zmi,zvo,ztp,zou⟩,S5,R5⟩:=id N5;obtain⟨yA,yc,hzba⟩:=R5.ba.form;have hzba:zba=.slice yA m2.bats.length yc:=hzba;subst hzba;have s4:=S5.nd4;simp only at s4;have hrb:=R5.ba.ownSl.reads (bs:=40) (fun _ _ _ _ hx _=>hx) (by omega);obtain⟨A9,c9,he9,hq9,-,-,-,h59⟩:=hrb;injection he9 with he1 _ he3;subst he1 he3;obtain⟨bb,bo,hyA,hcc9⟩:=h59 (by omega);subst hyA;obtain⟨cs9,-,hcell9,vt,rfl,rt,hts⟩:=hcc9 a hab;have y0:w5.cell? ⟨bb,bo+a*3,none⟩=some (.int .i64 m2.bats[a].author):=hcell9 0 (by decide);have y1:w5.cell? ⟨bb,bo+a*3+1,none⟩=some (.int .i64 m2.bats[a].number):=hcell9 1 (by decide);have y2:w5.cell? ⟨bb,bo+a*3+2,none⟩=some vt:=hcell9 2 (by decide);obtain⟨tA,tc,rfl,htf⟩:=id rt;have habI:(a:Int)<m2.bats.length:=by omega
      clear htf hcell9 hcc9 S5 R5;generalize m2.bats[a]=bt at *
      go_wp2_with fail
      refine(Ze5 i tb g off m2 (k:Int) (batM bt) _ _ _ _ _ _ _ o2 _ l5 hi N5 (Zjy rt) hts K2.kn.out).mono ?_;rintro e w6 ⟨rfl,o6,F56,N6⟩;have F6:=F5.trans F56;have hvw6:=hvw5.trans F56.fr.view;have K6:=K2.send (k:Int) (batM bt);clear N5 F5 s4 y0 y1 y2 rt hts;go_wp2;go_roundw
      case rel=>exact⟨q+1,o6,_,by omega,by go_num,hm3.out.symm,F6,N6,K6,hvw6⟩
      case measure=>simp[intOf]<;>omega
    ·have hql:q=h.batches.length:=by omega
     have hqI:¬(q:Int)<h.batches.length:=by omega
     have hm3:Hid ((all4.take (k+1)).foldl (Zeg h) n=send m2 (k:Int) (offM h)):=by
      show _=_;rw[hstep.out];unfold Zeg;rw[if_neg hnv.out,hm2.out,hql,List.take_length]
     obtain⟨hm9,⟨ztx,zba,zdi,zta,zda,zow,zmi,zvo,ztp,zou⟩,S9,R9⟩:=id N2;have t8:=S9.nd8;simp only at t8;have row:=R9.ow;rw[K2.own,Hown.out]at row;obtain⟨ob2,ovb2,ovp2,hzow,d0,d1,d2,d3,rb9,rp9⟩:=row;have hzow:zow=.pointer (some ⟨ob2,0,none⟩):=hzow;subst hzow;obtain⟨b9,b9c,rfl,hfb⟩:=id rb9;obtain⟨p9,p9c,rfl,hfp⟩:=id rp9;have e0:=Zag _ _ _ _ d0;have e1:=Zag _ _ _ _ d1;have e2:=Zag _ _ _ _ d2;have e3:=Zag _ _ _ _ d3;clear hfb hfp d0 d1 d2 d3 S9 R9 hm9 hql hm2 hstep rbY
     go_wp2_with fail
     refine(Ze5 i tb g off m2 (k:Int) (offM h) _ _ _ _ _ _ _ o2 _ l2 hi N2 (Zh5 rb9 rp9) (fun s hs=>by cases hs) K2.kn.out).mono ?_;rintro e w6 ⟨rfl,o6,F26,N6⟩;have F6:=F2.trans F26;have K6:=K2.send (k:Int) (offM h);clear N2 F2 e0 e1 e2 e3 rb9 rp9 t8;go_wp2;go_roundw
     case rel=>exact⟨k+1,o6,_,by omega,by go_num,hm3.out.symm,F6,N6,K6⟩
     case measure=>simp[intOf]<;>omega
  ·have hk:k=4:=by omega
   have hres:NodeAt o1 wr i tb g off QR:=by
    rw[HQ.out];have:all4.take k=all4:=by rw[hk];rfl
    rw[this]at hm;rw[←hm.out];exact N1
   have hltI:¬(k:Int)<4:=by omega
   clear hk;go_wp2;go_end0;exact⟨rfl,o1,F1,hres⟩
theorem Zo6(i tb g off gn gi a:Nat)(n:Nd)(d:Value)(x:List UInt8)(o:Own)(w:World)(hN:NodeAt o w i tb g off n)(h1:w.cell? ⟨gn,0,none⟩=some (.pointer (some ⟨g,off,none⟩)))(h2:w.cell? ⟨gi,0,none⟩=some (.int .i64 (a:Int)))(ha:a<n.digs.length)(hd:Zao w.cell? d x)(h8:n.digs.length≤800) :
 Calls Tryz.prog 196 (#[d]++#[.pointer (some ⟨gn,0,none⟩),.pointer (some ⟨gi,0,none⟩)]) w fun e w'=>e=.returned (.bool (x==n.digs[a]))∧Below w.heap.size w w':=by
 obtain⟨A,c,rfl,hf⟩:=id hd;clear hf;obtain⟨hmk,⟨vtx,vba,vdi,vta,vda,vow,vmi,vvo,vtp,vou⟩,S1,R1⟩:=id hN;have s5:=S1.nd5;simp only at s5;have rdi:RDigs w.cell? vdi n.digs:=R1.di.reads (bs:=24) RDig.mono (by omega);obtain⟨dA,dc,rfl,hf⟩:=id rdi;clear hf;obtain⟨-,hn1,-,hel⟩:=RDigs.at rdi;obtain⟨b0,o0,d0,hA0,t0,r0⟩:=hel a ha;subst hA0;obtain⟨xA,xc,rfl,hfx⟩:=id r0;have haI:(a:Int)<n.digs.length:=by omega
 show Calls Tryz.prog 196 #[.slice A x.length c,.pointer (some ⟨gn,0,none⟩),.pointer (some ⟨gi,0,none⟩)] w _;clear hfx hel rdi S1 R1;generalize n.digs[a]=y at *;obtain⟨Q,hQ⟩:∃q,Hid ((x==y)=q):=⟨_,rfl⟩;rw[hQ.out]
 go_enter Tryz.func196,Tryz.ntmps196
 go_upto_region 1 with fail
 refine Zr [9] (.q 0 (.q 1 (.q 2 (.q 3 (.q 4 (.q 5 (.q 6 (.q 7 (.l 8 (.qc 9 .nil)))))))))) fun W3 hS3=>?_
 repeat((first|refine pq (h:=⟨_,fun w' hS=>by(have z1:=Zaa hS _ _ h1;have z2:=Zaa hS _ _ h2;have z3:=Zaa hS _ _ s5;have z4:=Zaa hS _ _ t0;go_simp;exact rfl),?_⟩)|refine Zq ?_);simp only[sx])
 refine Zd fun K hK=>?_
 try simp only[sy]
 go_simp;refine(Zb6 _ _ x y _ (hd.mono (Zaa hS3)) (r0.mono (Zaa hS3))).mono ?_;rintro e w4 ⟨rfl,rfl⟩;rw[hQ.out];refine hK.out _ _ (hS3) fun hS=>?_
 clear hK K
 try simp only[sx]
 repeat(refine Zq ?_;simp only[sx])
 refine Zah ?_;go_wp2;go_ret;exact⟨rfl,hS3⟩
theorem Zqf(i tb g off gn gi a:Nat)(n:Nd)(cs:List Value)(x:Crt)(o:Own)(w:World)(hl:Lim o w)(hN:NodeAt o w i tb g off n)(h1:w.cell? ⟨gn,0,none⟩=some (.pointer (some ⟨g,off,none⟩)))(h2:w.cell? ⟨gi,0,none⟩=some (.int .i64 (a:Int)))(ha:a<n.digs.length)(hx:RCrt w.cell? cs x)(h8:n.digs.length≤800) :
 Calls Tryz.prog 195 (#[.agg cs.toArray]++#[.pointer (some ⟨gn,0,none⟩),.pointer (some ⟨gi,0,none⟩)]) w fun e w'=>e=.returned (.bool (x.hdr.author==n.me&&x.hdr.batches.any (·==n.digs[a])))∧Below w.heap.size w w':=by
 obtain⟨ub,up,uv,rfl,rb,rp,rv⟩:=hx;obtain⟨bA,bc,rfl,hfb⟩:=id rb;obtain⟨pA,pc,rfl,hfp⟩:=id rp;obtain⟨eA,ec,rfl,hfe⟩:=id rv;clear hfb hfp hfe rp rv;obtain⟨hmk,⟨vtx,vba,vdi,vta,vda,vow,vmi,vvo,vtp,vou⟩,S1,R1⟩:=id hN;have s0:=S1.nd0;have eg:=enters_of Tryz.func196 (by kernel_rfl) rfl;show Calls Tryz.prog 195 #[.agg #[.int .i64 x.hdr.author,.int .i64 x.hdr.round,.slice bA x.hdr.batches.length bc,.slice pA x.hdr.parents.length pc,.slice eA x.voters.length ec],.pointer (some ⟨gn,0,none⟩),.pointer (some ⟨gi,0,none⟩)] w _;obtain⟨Q,hQ⟩:∃q,Hid (x.hdr.batches.any (·==n.digs[a])=q):=⟨_,Lib.hid rfl⟩;rw[hQ.out];clear S1 R1 hmk
 go_enter Tryz.func195,Tryz.ntmps195
 go_upto_region 1 with fail
 refine Zo fun W hk hsz hb=>?_
 clear hsz;have z1:=Zaa hb _ _ h1;have z2:=Zaa hb _ _ h2;have z3:=Zaa hb _ _ s0;have rb1:=rb.mono RDig.mono (Zaa hb);have l1:=Zam hl hb;have N1:=hN.below hl hb;clear h1 h2 s0 rb
 by_cases hau:x.hdr.author=n.me
 ·have hab:(x.hdr.author==n.me)=true:=by simpa using hau
  clear hau;refine Zr [15] (.q 0 (.q 1 (.q 2 (.q 3 (.q 4 (.q 5 (.q 6 (.q 7 (.q 8 (.q 9 (.q 10 (.q 11 (.q 12 (.l 13 (.q 14 (.qc 15 .nil)))))))))))))))) fun W3 hS3=>?_
  repeat((first|refine pq (h:=⟨_,fun w' hS=>by(have y:=hk.kept hS;have y0:=y.cell 0;have y2:=y.cell 2;have x1:=Zaa hS _ _ z1;have x2:=Zaa hS _ _ z2;have x3:=Zaa hS _ _ z3;simp at y0 y2;go_simp;exact rfl),?_⟩)|refine Zq ?_);simp only[sx])
  refine Zd fun K hK=>?_
  try simp only[sy]
  go_simp;refine(Zk2 196 #[.pointer (some ⟨gn,0,none⟩),.pointer (some ⟨gi,0,none⟩)] (·==n.digs[a]) eg _ x.hdr.batches _ (rb1.mono RDig.mono (Zaa hS3)) (fun W4 d y hW hy=>Zo6 i tb g off gn gi a n d y o W4 ((N1.below l1 hS3).below (Zam l1 hS3) hW) (Zaa hW _ _ (Zaa hS3 _ _ z1)) (Zaa hW _ _ (Zaa hS3 _ _ z2)) ha hy h8)).mono ?_;rintro e w4 ⟨rfl,hb4⟩;rw[hQ.out];refine hK.out _ _ (hS3.trans (hb4.mono hS3.size)) fun hS=>?_
  clear hK K
  try simp only[sx]
  repeat(refine Zq ?_;simp only[sx])
  refine Zah ?_;go_wp2;go_ret;exact⟨Zap (by simp[hab]),hb.trans (hS.mono (by have:=hb.size;omega))⟩
 ·have hab:(x.hdr.author==n.me)=false:=by simpa using hau
  clear hau;refine Zr [15] (.q 0 (.q 1 (.q 2 (.q 3 (.q 4 (.q 5 (.q 6 (.q 7 (.q 8 (.q 9 (.q 10 (.q 11 (.q 12 (.l 13 (.q 14 (.qc 15 .nil)))))))))))))))) fun W3 hS3=>?_
  repeat((first|refine pq (h:=⟨_,fun w' hS=>by(have y:=hk.kept hS;have y0:=y.cell 0;have y2:=y.cell 2;have x1:=Zaa hS _ _ z1;have x2:=Zaa hS _ _ z2;have x3:=Zaa hS _ _ z3;simp at y0 y2;go_simp;exact rfl),?_⟩)|refine Zq ?_);simp only[sx])
  refine Zah ?_;go_wp2;go_ret;exact⟨Zap (by simp[hab]),hb.trans (hS3.mono (by have:=hb.size;omega))⟩
def RDigH(h0:View):View→List Value→List UInt8→Prop:=fun _ cs x=>RDig h0 cs x
theorem RDigH.mono(h0:View):Mono (RDigH h0):=fun _ _ _ _ h _=>h
theorem Zw9(hR:Mono R){h0:View}{o:Own}{B:Nat}(h:OwnSl sz (fun _ cs x=>R h0 cs x) e w B v xs)(ho:∀b,B≤b→o b=none)(hv:VLe h0 (Zas o w))(hbs:xs.length*bs≤140737488355328):RSl sz R bs (Zas o w) v xs:=by
 obtain⟨css,h1,h2,h3⟩:=h.own
 have hlen:∀i (hi:i<css.length),css[i].length=sz:=fun i hi=>by
  obtain⟨cs,q1,q2,_⟩:=h3 i (by omega);rw[List.getElem?_eq_getElem hi]at q1;injection q1 with q1;rw[q1];exact q2
 rcases id h1.2 with ⟨rfl,h0'⟩|⟨g,cap,cur,rfl,k2,k3,k4,k5,k6,k7⟩
 ·have:xs=[]:=List.eq_nil_of_length_eq_zero h0';subst this;exact⟨none,0,rfl,Nat.le_refl _,Nat.zero_le _,by simp,fun _=>rfl,fun h=>by simp at h⟩
 ·refine⟨_,cap,rfl,k4,k5,hbs,(fun h=>by cases h),fun hp=>⟨g,0,rfl,fun i hi=>?_⟩⟩;obtain⟨cs,q1,q2,q3⟩:=h3 i hi;refine⟨cs,q2,fun j hj=>?_,hR _ _ _ _ q3 hv⟩;have hf:=Zgv hlen q1 hj;have hj':cs[j]?=some (cs[j]'(by omega)):=List.getElem?_eq_getElem _;rw[hj'];have:=h1.cells (g:=g) rfl (i*sz+j) _ (hf.trans hj');rw[Zbs]at this;unfold Zas;rw[if_neg (by rw[ho g k2];simp)];rwa[Nat.zero_add]at this⊢
theorem Zs4(h1:k<n.bats.length)(h2:k<n.digs.length):((n.bats.zip n.digs).take (k+1)).foldl (Ze8 n) []=Ze8 n (((n.bats.zip n.digs).take k).foldl (Ze8 n) []) (n.bats[k],n.digs[k]):=by
 have hk:k<(n.bats.zip n.digs).length:=by simp;omega
 rw[List.take_succ_eq_append_getElem hk,List.foldl_append];simp
theorem Zo5(i tb g off:Nat)(n:Nd)(o:Own)(w:World)(hl:Lim o w)(hN:NodeAt o w i tb g off n)(h8:n.digs.length≤800)(hbd:n.digs.length=n.bats.length) :
 Calls Tryz.prog 183 #[.pointer (some ⟨g,off,none⟩)] w fun e w'=>∃v,e=.returned v∧Below w.heap.size w w'∧RDigs (Zas o w') v (Zxk n):=by
 obtain⟨QL,hQL⟩:∃q,Hid (Zxk n=q):=⟨_,rfl⟩;have HQ:Hid (QL=(n.bats.zip n.digs).foldl (Ze8 n) []):=hQL.out.symm;rw[hQL.out];have eg:=enters_of Tryz.func195 (by kernel_rfl) rfl;have H8:=Lib.hid h8;have HB:=Lib.hid hbd;clear h8 hbd hQL
 go_enter Tryz.func183,Tryz.ntmps183
 go_upto_region 1 with fail
 refine Zo fun W hk hsz hb=>?_
 have l1:=Zam hl hb;have N1:=hN.below hl hb;have g0:=hk.cell 0;simp at g0;clear hsz hN;obtain⟨hmk,⟨vtx,vba,vdi,vta,vda,vow,vmi,vvo,vtp,vou⟩,S1,R1⟩:=id N1;have s0:=S1.nd0;have s4:=S1.nd4;have s5:=S1.nd5;have s7:=S1.nd7;simp only at s0 s4 s5 s7;have rda:RCrts W.cell? vda n.dag:=R1.da.mono RCrt.mono (Zag _ _);obtain⟨daA,dac,hda,_⟩:=id rda;have hda:vda=.slice daA n.dag.length dac:=hda;subst hda;have h9:n.bats.length≤800:=by rw[←HB.out];exact H8.out
 obtain⟨bA,bc,hvba⟩:=R1.ba.form;have hvba:vba=.slice bA n.bats.length bc:=hvba;subst hvba;have hrb:=R1.ba.ownSl.reads (bs:=40) (fun _ _ _ _ hx _=>hx) (by omega);obtain⟨A9,c9,he9,-,-,-,-,h59⟩:=hrb;injection he9 with he1 _ he3;subst he1 he3;have H59:=Lib.hid h59;have hrd:RSl 1 (RDigH (Zas o W)) 24 W.cell? vdi n.digs:=R1.di.ownSl.reads (bs:=24) (fun _ _ _ _ hx _=>hx) (by have:=H8.out;omega);obtain⟨dA,dc,hvdi⟩:=R1.di.form;have hvdi:vdi=.slice dA n.digs.length dc:=hvdi;subst hvdi;obtain⟨D9,d9,hf9,hq9,-,-,-,e59⟩:=hrd;injection hf9 with hf1 _ hf3;subst hf1 hf3;have E59:=Lib.hid e59;clear h59 e59 S1 R1 hmk
 go_wp2_with fail
 go_loopw [3,4,5,6,12] (fun ov _ _ _ j wr=>∃(k:Nat) (L:List (List UInt8)),k≤n.bats.length∧j=.int .i64 k∧Hid (L=((n.bats.zip n.digs).take k).foldl (Ze8 n) [])∧L.length≤3∧OwnSl 1 (RDigH (Zas o W)) 54 wr W.heap.size ov L∧Below W.heap.size W wr) (fun _ _ _ _ j _=>n.bats.length-(intOf j).toNat)
 case atStart=>exact⟨0,[],Nat.zero_le _,rfl,rfl,by simp,OwnSl.nil _ _ _ _ _,Below.refl _ _⟩
 case round =>
  obtain⟨k,L,hk1,rfl,hL,hL3,hown,hbl⟩:=hrel;obtain⟨uA,uc,rfl⟩:=hown.form;have hzr:=hbl.size
  by_cases hlt:k<n.bats.length
  ·have hltI:(k:Int)<n.bats.length:=by omega
   have hltd:k<n.digs.length:=by rw[HB.out];exact hlt
   have hltdI:(k:Int)<n.digs.length:=by omega
   obtain⟨bb,bo,hyA,hcc9⟩:=H59.out (by omega);subst hyA;obtain⟨cs9,-,hcell9,vt,rfl,rt,hts⟩:=hcc9 k hlt;have y0:W.cell? ⟨bb,bo+k*3,none⟩=some (.int .i64 n.bats[k].author):=hcell9 0 (by decide);have y1:W.cell? ⟨bb,bo+k*3+1,none⟩=some (.int .i64 n.bats[k].number):=hcell9 1 (by decide);have y2:W.cell? ⟨bb,bo+k*3+2,none⟩=some vt:=hcell9 2 (by decide);obtain⟨tA,tc,rfl,htf⟩:=id rt;have q:=Zaa hbl;have z0:=q _ _ y0;have z1:=q _ _ y1;have z2:=q _ _ y2;have hstep:=Lib.hid (Zs4 hlt hltd);clear htf hcell9 hcc9 y0 y1 y2 rt hts
   go_upto_region 5 with fail
   refine Za6 _ _ _ _ _ (fun W=>Code.wp _ _ _ _ W) (fun W2 hI hX hsX hbX=>?_);have hbl2:=hbl.trans (hbX.mono hzr);have hz2:=hbl2.size;have hb2:=hb.trans (hbl2.mono hb.size);have N2:=N1.below l1 hbl2;have l2:=Zam l1 hbl2;have q2:=Zaa hbl2;have rda2:=rda.mono RCrt.mono q2;have x7:=q2 _ _ s7;have xg:=q2 _ _ g0;have i0:=hI.cell 0;simp at i0;obtain⟨QU,hQU⟩:∃q,Hid (usedB n n.digs[k]=q):=⟨_,Lib.hid rfl⟩;have hown2:=hown.kept (RDigH.mono _) hbX;clear z0 z1 z2 hsX
   go_wp2_with fail
   refine(Zhl 195 #[.pointer (some ⟨w.heap.size,0,none⟩),.pointer (some ⟨wr.heap.size,0,none⟩)] (fun x=>x.hdr.author==n.me&&x.hdr.batches.any (·==n.digs[k])) eg _ n.dag W2 rda2 (fun W3 cs x hW hx=>Zqf i tb g off w.heap.size wr.heap.size k n cs x o W3 (Zam l2 hW) (N2.below l2 hW) (Zaa hW _ _ xg) (Zaa hW _ _ i0) hltd hx H8.out)).mono ?_;rintro e w3 ⟨rfl,hb3⟩;rw[show n.dag.any (fun x=>x.hdr.author==n.me&&x.hdr.batches.any (·==n.digs[k]))=QU from hQU.out];have hbl3:=hbl2.trans (hb3.mono hz2);have hz3:=hbl3.size;have q3:=Zaa hbl3;have hX3:=hX.kept hb3;have hI3:=hI.kept hb3;have hown3:=hown2.kept (RDigH.mono _) hb3;have x0:=q3 _ _ s0;have x5:=q3 _ _ s5;have xg3:=q3 _ _ g0;clear i0 x7 xg rda2 hX hI hown2
   by_cases hau:n.bats[k].author=n.me
   rotate_left
   ·have hab:(n.bats[k].author==n.me)=false:=by simpa using hau
    have hL2:Hid (L=((n.bats.zip n.digs).take (k+1)).foldl (Ze8 n) []):=by
     show _=_;rw[hstep.out,←hL.out];unfold Ze8;rw[if_neg];rintro⟨h1,h2,h3⟩;exact hau h1
    go_upto_region 6 with fail
    refine Zr [] (.q 0 (.q 1 (.q 2 (.q 3 (.q 4 (.q 5 (.q 6 (.q 7 (.q 8 (.q 9 (.q 10 (.q 11 (.q 12 (.q 13 (.q 14 (.q 15 .nil)))))))))))))))) fun W4 hS4=>?_
    repeat((first|refine pq (h:=⟨_,fun w' hS=>by(have y:=hX3.kept hS;have y0:=y.cell 0;have y1:=Zaa hS _ _ x0;have y2:=Zaa hS _ _ xg3;simp at y0;go_simp;exact rfl),?_⟩)|refine Zq ?_);simp only[sx])
    refine Zah ?_;go_wp2;go_roundw
    case rel=>exact⟨k+1,L,by omega,by go_num,hL2,hL3,hown3.kept (RDigH.mono _) hS4,hbl3.trans (hS4.mono hz3)⟩
    case measure=>simp[intOf]<;>omega
   have hab:(n.bats[k].author==n.me)=true:=by simpa using hau
   cases QU
   rotate_left
   ·have hL2:Hid (L=((n.bats.zip n.digs).take (k+1)).foldl (Ze8 n) []):=by
     show _=_;rw[hstep.out,←hL.out];unfold Ze8;rw[if_neg];rintro⟨h1,h2,h3⟩;rw[hQU.out]at h2;cases h2
    go_upto_region 6 with fail
    refine Zr [] (.q 0 (.q 1 (.q 2 (.q 3 (.q 4 (.q 5 (.q 6 (.q 7 (.q 8 (.q 9 (.q 10 (.q 11 (.q 12 (.q 13 (.q 14 (.q 15 .nil)))))))))))))))) fun W4 hS4=>?_
    repeat((first|refine pq (h:=⟨_,fun w' hS=>by(have y:=hX3.kept hS;have y0:=y.cell 0;have y1:=Zaa hS _ _ x0;have y2:=Zaa hS _ _ xg3;simp at y0;go_simp;exact rfl),?_⟩)|refine Zq ?_);simp only[sx])
    refine Zah ?_;go_wp2;go_roundw
    case rel=>exact⟨k+1,L,by omega,by go_num,hL2,hL3,hown3.kept (RDigH.mono _) hS4,hbl3.trans (hS4.mono hz3)⟩
    case measure=>simp[intOf]<;>omega
   by_cases hL4:L.length<3
   rotate_left
   ·have hL5:¬(L.length:Int)<3:=by omega
    have hL2:Hid (L=((n.bats.zip n.digs).take (k+1)).foldl (Ze8 n) []):=by
     show _=_;rw[hstep.out,←hL.out];unfold Ze8;rw[if_neg];rintro⟨h1,h2,h3⟩;exact hL4 h3
    go_upto_region 6 with fail
    refine Zr [] (.q 0 (.q 1 (.q 2 (.q 3 (.q 4 (.q 5 (.q 6 (.q 7 (.q 8 (.q 9 (.q 10 (.q 11 (.q 12 (.q 13 (.q 14 (.q 15 .nil)))))))))))))))) fun W4 hS4=>?_
    repeat((first|refine pq (h:=⟨_,fun w' hS=>by(have y:=hX3.kept hS;have y0:=y.cell 0;have y1:=Zaa hS _ _ x0;have y2:=Zaa hS _ _ xg3;simp at y0;go_simp;exact rfl),?_⟩)|refine Zq ?_);simp only[sx])
    refine Zah ?_;go_wp2;go_roundw
    case rel=>exact⟨k+1,L,by omega,by go_num,hL2,hL3,hown3.kept (RDigH.mono _) hS4,hbl3.trans (hS4.mono hz3)⟩
    case measure=>simp[intOf]<;>omega
   have hL5:(L.length:Int)<3:=by omega
   have hL2:Hid (L++[n.digs[k]]=((n.bats.zip n.digs).take (k+1)).foldl (Ze8 n) []):=by
    show _=_;rw[hstep.out,←hL.out];unfold Ze8;rw[if_pos ⟨hau,hQU.out,hL4⟩]
   go_upto_region 6 with fail
   refine Zr [] (.q 0 (.q 1 (.q 2 (.q 3 (.q 4 (.q 5 (.q 6 (.q 7 (.q 8 (.q 9 (.q 10 (.q 11 (.q 12 (.q 13 (.q 14 (.q 15 .nil)))))))))))))))) fun W4 hS4=>?_
   repeat((first|refine pq (h:=⟨_,fun w' hS=>by(have y:=hX3.kept hS;have y0:=y.cell 0;have y1:=Zaa hS _ _ x0;have y2:=Zaa hS _ _ xg3;simp at y0;go_simp;exact rfl),?_⟩)|refine Zq ?_);simp only[sx])
   refine Zah ?_
   go_upto_region 7 with fail
   obtain⟨eb,eo,hdA,ecc⟩:=E59.out (by omega);subst hdA;obtain⟨es9,hel,ecell,ed,rfl,er⟩:=ecc k hltd;have y5:W.cell? ⟨eb,eo+k,none⟩=some ed:=by have:=ecell 0 (by decide);simpa using this
   obtain⟨eA,ec,rfl,hef⟩:=id er;have hbl4:=hbl3.trans (hS4.mono hz3);have hz4:=hbl4.size;have q4:=Zaa hbl4;have u5:=q4 _ _ s5;have ug:=q4 _ _ g0;have uy:=q4 _ _ y5;have hI4:=hI3.kept hS4;have hown4:=hown3.kept (RDigH.mono _) hS4;clear hef ecell ecc hel;obtain⟨ob,hob⟩:∃ob,Hid (Value.ownBlock (.slice uA L.length uc)=ob):=⟨_,rfl⟩;have hoblt:∀q,ob=some q→W.heap.size≤q∧q<wr.heap.size:=fun q hq=>hown.lt q (hob.out.trans hq)
   have ne1:∀{a:Addr} {v:Value},W.cell? a=some v→some a.block≠ob:=fun {a v} h e=>by
    have:=(hoblt _ e.symm).1;have:=World.block_lt_of_cell? W a h;omega
   have ne2:some wr.heap.size≠ob:=fun e=>by have:=(hoblt _ e.symm).2;omega
   have n5:=ne1 s5;have ng:=ne1 g0;have ny:=ne1 y5;refine Zt (fun w'=>Below W4.heap.size W4 w') (fun w'=>W4.grownBy w' ob) [10] (.q 0 (.q 1 (.q 2 (.q 3 (.q 4 (.q 5 (.q 6 (.q 7 (.l 8 (.l 9 (.qc 10 .nil))))))))))) ?_ ?_
   ·exact⟨Zad _,Zcd _ _⟩
   intro W5 hS5 hS
   repeat((first|refine pq (h:=⟨_,fun w' hS=>by(have y:=hI4.grown hS ne2;have y0:=y.cell 0;have y1:=hS.cell u5 n5;have y2:=hS.cell ug ng;have y3:=hS.cell uy ny;simp at y0;go_simp;exact rfl),?_⟩)|refine Zq ?_);simp only[sx])
   have hbl5:=hbl4.trans (hS5.mono hz4);have hz5:=hbl5.size;have hown5:=hown4.kept (RDigH.mono _) hS5;refine Zd fun K hK=>?_
   try simp only[sy]
   go_simp;have hb6:=Zac W5 (.cells #[.slice eA n.digs[k].length ec] 54);refine hK.out _ _ (Zaf hS (Zak _ hb6)) fun hS=>?_
   clear hK K
   try simp only[sx]
   refine Zd fun K hK=>?_
   try simp only[sy]
   refine Zbg (n:=140737488355328) (RDigH.mono _) n.digs[k] [.slice eA n.digs[k].length ec] Zez _ _ rfl rfl hown5 (W:=W) hbl5 hz5 rfl rfl rfl rfl ⟨_,rfl,er⟩ (Nat.le_refl _) (by omega) (by omega) (fun v7 w7 ho7 hb7 hg7=>?_);replace hg7:W5.grownBy w7 ob:=by rw[←hob.out];exact hg7
   refine hK.out _ _ (Zaf (Zak _ hS5) hg7) fun hS=>?_
   clear hK K
   try simp only[sx]
   repeat(refine Zq ?_;simp only[sx])
   refine Zah ?_;obtain⟨v7A,v7c,rfl⟩:=ho7.form;go_wp2;go_roundw
   case rel=>exact⟨k+1,L++[n.digs[k]],by omega,by go_num,hL2,by simp;omega,ho7,hb7⟩
   case measure=>simp[intOf]<;>omega
  ·have hkl:k=n.bats.length:=by omega
   have hLe:Hid (L=QL):=by
    show _=_;rw[hL.out,HQ.out,List.take_of_length_le (by simp;omega)]
   have hltI:¬(k:Int)<n.bats.length:=by omega
   clear hkl;go_wp2;go_ret;have hbw:=hb.trans (hbl.mono (by have:=hb.size;omega));refine⟨_,rfl,hbw,?_⟩;rw[←hLe.out];exact Zw9 RDig.mono hown (fun b hB=>l1.none b (by omega)) (Zae l1 hbl) (by omega)
end Fl
theorem Zql(g:Nat)(lb:Array Value)(p:Bat→Bool)(eg:∀args w,(callFunc g args).run Tryz.prog w=.ok (.enter g args) w)(vl:Value)(l:List (Bat))(w:World)(hl:RBats w.cell? vl l)(hp:∀(W:World) (cs:List Value) (x:Bat),Below w.heap.size w W→RBat W.cell? cs x→Calls Tryz.prog g (#[.agg cs.toArray]++lb) W fun e w'=>e=.returned (.bool (p x))∧Below W.heap.size W w') :
 Calls Tryz.prog 194 #[vl,.func (.func g) #[] lb] w fun e w'=>e=.returned (.int .i64 (idxI p l))∧Below w.heap.size w w':=by
 obtain⟨A,c,rfl,hform⟩:=id hl;clear hform;obtain⟨_,hn1,hn2,hel⟩:=hl.at;have Hel:=Lib.hid hel;have Hp:=Lib.hid hp;clear hl hel hp
 go_enter Tryz.func194,Tryz.ntmps194
 go_wp2
 go_loopw [8] (fun i wr=>∃k:Nat,k≤l.length∧i=.int .i64 k∧Hid (∀j (hj:j<l.length),j<k→p l[j]=false)∧Below w.heap.size w wr) (fun i _=>l.length-(intOf i).toNat)
 case atStart=>exact⟨0,Nat.zero_le _,rfl,fun j _ hj=>by omega,Below.refl _ _⟩
 case round =>
  obtain⟨k,hk,rfl,hno,hbl⟩:=hrel
  by_cases hlt:k<l.length
  ·obtain⟨b0,o0,vt,rfl,q0,q1,q2,ht,hts⟩:=Hel.out k hlt;have c0:=Zaa hbl _ _ q0;have c1:=Zaa hbl _ _ q1;have c2:=Zaa hbl _ _ q2;have hR:Hid (RBat wr.cell? [.int .i64 l[k].author,.int .i64 l[k].number,vt] l[k]):=⟨vt,rfl,ht.mono (Zaa hbl),hts⟩;clear q0 q1 q2
   go_wp2_with fail
   refine(Hp.out _ [.int .i64 l[k].author,.int .i64 l[k].number,vt] l[k] hbl hR.out).mono ?_;rintro e w1 ⟨rfl,hb'⟩;have hbl1:=hbl.trans (hb'.mono hbl.size);clear hR hb' c0 c1 c2;cases e1:p l[k]
   ·have Hb:=Lib.hid e1;clear e1;go_wp2;go_roundw
    case rel=>exact⟨k+1,by omega,by go_num,fun j hj hjk=>by
     by_cases e:j=k
     ·subst e;exact Hb.out
     ·exact hno.out j hj (by omega),hbl1⟩
    case measure=>simp[intOf];omega
   ·have Hb:=Lib.hid e1;clear e1;go_wp2;go_ret;exact⟨Zaj (Zi3 hlt hno.out Hb.out).symm,hbl1⟩
  ·go_wp2;go_ret;exact⟨Zaj (Zky fun j hj=>hno.out j hj (by omega)).symm,hbl⟩
theorem Zqo(g:Nat)(lb:Array Value)(p:Bat→Bool)(eg:∀args w,(callFunc g args).run Tryz.prog w=.ok (.enter g args) w)(vl:Value)(l:List (Bat))(w:World)(hl:RBats w.cell? vl l)(hp:∀(W:World) (cs:List Value) (x:Bat),Below w.heap.size w W→RBat W.cell? cs x→Calls Tryz.prog g (#[.agg cs.toArray]++lb) W fun e w'=>e=.returned (.bool (p x))∧Below W.heap.size W w') :
 Calls Tryz.prog 180 #[vl,.func (.func g) #[] lb] w fun e w'=>e=.returned (.bool (l.any p))∧Below w.heap.size w w':=by
 have Hp:=Lib.hid hp;clear hp;rw[←Zj1 p l];obtain⟨i,hi⟩:∃i,Hid (idxI p l=i):=⟨_,rfl⟩;rw[hi.out]
 go_enter Tryz.func180,Tryz.ntmps180
 go_wp2_with fail
 refine(Zql g lb p eg vl l _ hl Hp.out).mono ?_;rintro e w1 ⟨rfl,hb⟩;rw[hi.out];clear hi hl
 by_cases h0:0≤i
 ·have Hq:Hid (decide (0≤i)=true):=decide_eq_true h0;go_wp2;go_ret;exact⟨Zap Hq.out.symm,hb⟩
 ·have Hq:Hid (decide (0≤i)=false):=decide_eq_false h0;go_wp2;go_ret;exact⟨Zap (by rw[Hq.out]),hb⟩
namespace Fl
theorem Zq7{n:Nat}{xs:List ByteArray}(hr:RTexts h (.slice A n c) xs):n=xs.length∧n≤c∧n*16≤140737488355328∧∀k (hk:k<xs.length),∃b o,A=some ⟨b,o,none⟩∧h ⟨b,o+k,none⟩=some (.string xs[k]):=by
 obtain⟨A',c',e,h1,_,h2,_,h3⟩:=hr;injection e with e1 e2 e3;subst e1 e2 e3;refine⟨rfl,h1,h2,fun k hk=>?_⟩;obtain⟨b,o,ea,hc⟩:=h3 (by omega);have:=hc k hk;exact⟨b,o,ea,by rw[this];simp[hk,encS]⟩
theorem tl_eq{a b:List ByteArray}(hl:a.length=b.length):((a.map fun s=>s.toList)==b.map fun s=>s.toList)=true↔∀k (h1:k<a.length) (h2:k<b.length),a[k].toList=b[k].toList:=by
 rw[beq_iff_eq];constructor
 ·intro h k h1 h2;have:=congrArg (fun l=>l[k]?) h;simpa[h1,h2]using this
 ·intro h;apply List.ext_getElem (by simp[hl]);intro k h1 h2;simp at h1 h2;simpa using h k h1 h2
theorem Ztd(va vb:Value)(a b:List ByteArray)(w:World)(ha:RTexts w.cell? va a)(hb:RTexts w.cell? vb b) :
 Calls Tryz.prog 182 #[va,vb] w fun e w'=>e=.returned (.bool ((a.map fun s=>s.toList)==b.map fun s=>s.toList))∧Below w.heap.size w w':=by
 obtain⟨A,c,rfl,hf⟩:=id ha;obtain⟨B,d,rfl,hf'⟩:=id hb;clear hf hf';obtain⟨-,hn1,hn2,hel⟩:=Zq7 ha;obtain⟨-,hm1,hm2,hem⟩:=Zq7 hb;have Hel:=Lib.hid hel;have Hem:=Lib.hid hem;obtain⟨Q,hQ⟩:∃q,Hid (((a.map fun s=>s.toList)==b.map fun s=>s.toList)=q):=⟨_,Lib.hid rfl⟩;rw[hQ.out];clear ha hb hel hem
 go_enter Tryz.func182,Tryz.ntmps182
 by_cases hl:a.length=b.length
 rotate_left
 ·have hl':¬(a.length:Int)=b.length:=by omega
  have hQf:Hid (Q=false):=by
   show _=_;rw[←hQ.out,Bool.eq_false_iff];intro h;have:=congrArg List.length (eq_of_beq h);simp at this;exact hl this
  go_wp2;go_ret;exact⟨Zap hQf.out.symm,Below.refl _ _⟩
 have hl':(a.length:Int)=b.length:=by omega
 have HL:=Lib.hid hl;clear hl
 go_wp2_with fail
 go_loopw [5,13] (fun _ j wr=>∃k:Nat,k≤a.length∧j=.int .i64 k∧Hid (∀q (h1:q<a.length) (h2:q<b.length),q<k→a[q].toList=b[q].toList)∧Below w.heap.size w wr) (fun _ j _=>a.length-(intOf j).toNat)
 case atStart=>exact⟨0,Nat.zero_le _,rfl,fun q _ _ h=>by omega,Below.refl _ _⟩
 case round =>
  obtain⟨k,hk,rfl,hno,hbl⟩:=hrel
  by_cases hlt:k<a.length
  ·have hlt2:k<b.length:=by rw[←HL.out];exact hlt
   have hltI:(k:Int)<a.length:=by omega
   have hltI2:(k:Int)<b.length:=by omega
   obtain⟨b0,o0,rfl,q0⟩:=Hel.out k hlt;obtain⟨b1,o1,rfl,q1⟩:=Hem.out k hlt2;have c0:=Zaa hbl _ _ q0;have c1:=Zaa hbl _ _ q1;clear q0 q1
   go_upto_region 6 with fail
   refine Zr [] (.q 0 (.q 1 (.q 2 (.q 3 (.q 4 (.q 5 (.q 6 (.q 7 (.q 8 .nil))))))))) fun W3 hS3=>?_
   repeat((first|refine pq (h:=⟨_,fun w' hS=>by(have y0:=Zaa hS _ _ c0;have y1:=Zaa hS _ _ c1;go_simp;exact rfl),?_⟩)|refine Zq ?_);simp only[sx])
   refine Zah ?_;have hbl3:=hbl.trans (hS3.mono hbl.size);clear c0 c1;cases e1:(a[k].toList==b[k].toList)
   ·have hQf:Hid (Q=false):=by
     show _=_;rw[←hQ.out,Bool.eq_false_iff];intro h;have:=(tl_eq HL.out).1 h k hlt hlt2;rw[this]at e1;simp at e1
    go_wp2;go_ret;exact⟨Zap hQf.out.symm,hbl3⟩
   ·have h1:Hid (a[k].toList=b[k].toList):=eq_of_beq e1;go_wp2;go_roundw
    case rel=>exact⟨k+1,by omega,by go_num,fun q h1' h2' hq=>by
     by_cases e:q=k
     ·subst e;exact h1.out
     ·exact hno.out q h1' h2' (by omega),hbl3⟩
    case measure=>simp[intOf];omega
  ·have hQt:Hid (Q=true):=by
    show _=_;rw[←hQ.out];exact(tl_eq HL.out).2 fun q h1 h2=>hno.out q h1 h2 (by omega)
   have hltI:¬(k:Int)<a.length:=by omega
   go_wp2;go_ret;exact⟨Zap hQt.out.symm,hbl⟩
theorem hasFn_any(gb:Nat)(b:Bat)(vt:Value)(cs:List Value)(x:Bat)(w:World)(hB:Blk w gb 53 #[.int .i64 b.author,.int .i64 b.number,vt])(hr:RTexts w.cell? vt b.txs)(hx:RBat w.cell? cs x) :
 Calls Tryz.prog 181 (#[.agg cs.toArray]++#[.pointer (some ⟨gb,0,none⟩)]) w fun e w'=>e=.returned (.bool (Zuk x b))∧Below w.heap.size w w':=by
 obtain⟨u,rfl,ru,hus⟩:=hx;obtain⟨uA,uc,rfl,hfu⟩:=id ru;obtain⟨tA,tc,rfl,hft⟩:=id hr;clear hfu hft;show Calls Tryz.prog 181 #[.agg #[.int .i64 x.author,.int .i64 x.number,.slice uA x.txs.length uc],.pointer (some ⟨gb,0,none⟩)] w _;obtain⟨Q,hQ⟩:∃q,Hid (((x.txs.map fun s=>s.toList)==b.txs.map fun s=>s.toList)=q):=⟨_,Lib.hid rfl⟩;have hS:Hid (Zuk x b=(x.author==b.author&&(x.number==b.number&&Q))):=by show _=_;rw[←hQ.out];rfl
 rw[hS.out];have z0:=hB.cell 0;have z1:=hB.cell 1;have z2:=hB.cell 2;simp at z0 z1 z2;clear hus
 go_enter Tryz.func181,Tryz.ntmps181
 go_upto_region 1 with fail
 refine Zo fun W hk hsz hb=>?_
 have y0:=Zaa hb _ _ z0;have y1:=Zaa hb _ _ z1;have y2:=Zaa hb _ _ z2;have k0:=hk.cell 0;have k1:=hk.cell 1;have k2:=hk.cell 2;simp at k0 k1 k2;clear hsz z0 z1 z2 hk;have hzb:=hb.size
 by_cases ha:x.author=b.author
 rotate_left
 ·have hab:(x.author==b.author)=false:=by simpa using ha
  go_wp2;go_ret;exact⟨Zap (by simp[hab]),hb⟩
 have hab:(x.author==b.author)=true:=by simpa using ha
 by_cases hn:x.number=b.number
 rotate_left
 ·have hnb:(x.number==b.number)=false:=by simpa using hn
  go_wp2;go_ret;exact⟨Zap (by simp[hnb]),hb⟩
 have hnb:(x.number==b.number)=true:=by simpa using hn
 go_wp2_with fail
 refine(Ztd _ _ x.txs b.txs _ (ru.mono (Zaa hb)) (hr.mono (Zaa hb))).mono ?_;rintro e w4 ⟨rfl,hb4⟩;rw[hQ.out];go_wp2;go_ret;exact⟨Zap (by simp[hab,hnb]),hb.trans (hb4.mono hzb)⟩
theorem has_any(i tb g off:Nat)(n:Nd)(b:Bat)(vt:Value)(o:Own)(w:World)(hN:NodeAt o w i tb g off n)(hr:RTexts w.cell? vt b.txs)(h9:n.bats.length≤800) :
 Calls Tryz.prog 156 #[.pointer (some ⟨g,off,none⟩),.agg #[.int .i64 b.author,.int .i64 b.number,vt]] w fun e w'=>e=.returned (.bool (has n b))∧Below w.heap.size w w':=by
 obtain⟨tA,tc,rfl,hft⟩:=id hr;clear hft;obtain⟨hmk,⟨vtx,vba,vdi,vta,vda,vow,vmi,vvo,vtp,vou⟩,S1,R1⟩:=id hN;have s4:=S1.nd4;simp only at s4;have rba:RBats w.cell? vba n.bats:=R1.ba.reads (bs:=40) RBat.mono (by omega);obtain⟨bA,bc,hvba⟩:=R1.ba.form;have hvba:vba=.slice bA n.bats.length bc:=hvba;subst hvba;obtain⟨Q,hQ⟩:∃q,Hid (has n b=q):=⟨_,rfl⟩;rw[hQ.out];have eg:=enters_of Tryz.func181 (by kernel_rfl) rfl;clear S1 R1 hmk hN
 go_enter Tryz.func156,Tryz.ntmps156
 go_upto_region 1 with fail
 refine Zo fun W hk hsz hb=>?_
 have y4:=Zaa hb _ _ s4;clear hsz s4
 go_wp2_with fail
 refine(Zqo 181 #[.pointer (some ⟨w.heap.size,0,none⟩)] (fun x=>Zuk x b) eg _ n.bats W (rba.mono RBat.mono (Zaa hb)) (fun W2 cs x hW hx=>hasFn_any w.heap.size b _ cs x W2 (hk.kept hW) ((hr.mono (Zaa hb)).mono (Zaa hW)) hx)).mono ?_;rintro e w3 ⟨rfl,hb3⟩;rw[show n.bats.any (fun x=>Zuk x b)=Q from hQ.out];go_wp2;go_ret;exact⟨rfl,hb.trans (hb3.mono hb.size)⟩
end Fl
theorem Zuo(hL:Lone l)(hA:Auth l)(h:∀j:Nat,j<k→3≤(Zbu l (1+j)).length):k≤l.length :=
 rounds_len k 1 fun j hj=>by have:=h j hj;rw[Zls _ hL hA]at this;omega
theorem Zjm(vl:Value)(l:List Crt)(w:World)(hl:RCrts w.cell? vl l)(hT:Tabs w.cell?) :
 Calls Tryz.prog 38 #[.agg #[vl]] w fun e w'=>e=.returned (.tuple #[.int .i64 (rndV l),.int .i64 (dagF hD cF l)])∧Below w.heap.size w w':=by
 obtain⟨A,c,rfl,hform⟩:=id hl;clear hform;obtain⟨E,hE⟩:∃q,Hid (dagF hD cF l=q):=⟨_,rfl⟩;obtain⟨V,hV⟩:∃q,Hid (rndV l=q):=⟨_,rfl⟩;have HV:Hid (V=if E=0 then Zs1 l else 0):=by show _=_;rw[←hV.out];unfold rndV;rw[hE.out]
 have Hlone:Hid (E=0→Lone l∧Auth l∧l.length≤400∧(∀c∈l,hF c.hdr=0)):=fun h=>Zn0 (hE.out.trans h)
 rw[hV.out,hE.out];clear hV
 go_enter Tryz.func38,Tryz.ntmps38
 go_upto_region 1 with fail
 refine Zo fun W hk hsz hbW=>?_
 clear hsz;have hzW:=hbW.size;have g0:=hk.cell 0;simp at g0
 go_wp2_with fail
 refine(Zfb _ l _ (hl.mono RCrt.mono (Zaa hbW)) (hT.mono (Zaa hbW))).mono ?_;rintro e w1 ⟨rfl,hb1⟩;rw[hE.out];have hbl1:=hbW.trans (hb1.mono hzW);have hz1:=hbl1.size;have hk1:=hk.kept hb1;clear g0 hE
 by_cases h0:E=0
 rotate_left
 ·have HQ:Hid (V=0):=by show _=_;rw[HV.out,if_neg h0]
  clear HV Hlone;go_wp2;go_ret2;exact⟨by rw[HQ.out];rfl,hbl1⟩
 have HQ:Hid (V=Zs1 l):=by show _=_;rw[HV.out,if_pos h0]
 have HL:=Lib.hid (Hlone.out h0);clear HV Hlone;subst h0
 go_wp2_with fail
 go_loopw [5] (fun i wr=>∃(k:Nat) (z:Int),i=.int .i64 z∧Hid (z=1+(k:Int))∧1≤z∧z≤401∧Hid (k≤l.length∧∀j:Nat,j<k→3≤(Zbu l (1+j)).length)∧Below w1.heap.size w1 wr) (fun i _=>500-(intOf i).toNat)
 case atStart=>exact⟨0,1,rfl,rfl,by omega,by omega,⟨Nat.zero_le _,fun j hj=>by omega⟩,Below.refl _ _⟩
 case round =>
  obtain⟨k,z,rfl,hz,hz0,hz401,hok,hbl⟩:=hrel;have hk2:=hk1.kept hbl;have g0:=hk2.cell 0;simp at g0;have hblw:=hbl1.trans (hbl.mono hz1)
  go_wp2_with fail
  refine(Zph _ l z _ (hl.mono RCrt.mono (Zaa hblw)) HL.out.1 HL.out.2.1 HL.out.2.2.1).mono ?_;rintro e w2 ⟨v2,rfl,hb2,r2⟩;have hbl2:=hbl.trans (hb2.mono hbl.size);obtain⟨N,hN⟩:∃N,Hid ((Zbu l z).length=N):=⟨_,rfl⟩;obtain⟨A2,c2,hv2,_⟩:=r2;rw[hN.out]at hv2;subst hv2;have HN:Hid (N=(Zbu l (1+(k:Int))).length):=by show _=_;rw[←hN.out,hz.out]
  clear hN g0
  by_cases h3:(3:Int)≤(N:Int)
  ·have hok2:Hid (∀j:Nat,j<k+1→3≤(Zbu l (1+j)).length):=fun j hj=>by
    by_cases e:j=k
    ·subst e;have:=HN.out;omega
    ·exact hok.out.2 j (by omega)
   have hk1':=Zuo HL.out.1 HL.out.2.1 hok2.out;have hz400:z+1≤401:=by have:=hz.out;have:=HL.out.2.2.1;omega
   have hzz:Hid (z+1=1+((k+1:Nat):Int)):=by show _=_;have:=hz.out;omega
   obtain⟨z2,hz2⟩:∃z2,z+1=z2:=⟨_,rfl⟩;have hz2':=Lib.hid hz2;have hwz:IntKind.i64.wrap (z+1)=z2:=by rw[IntKind.wrap_i64];omega
   clear hz2;go_wp2;go_roundw
   case rel=>exact⟨k+1,_,rfl,by first|exact hzz|(show _=_;rw[←hz2'.out];exact hzz.out),by have:=hz2'.out;omega,by have:=hz2'.out;omega,⟨hk1',hok2.out⟩,hbl2⟩
   case measure=>have:=hz2'.out;simp[intOf];omega
  ·have hV2:Hid (V=z):=by
    show _=_;rw[HQ.out,Zxf HL.out.1 HL.out.2.1 hok.out.2 (by have:=HN.out;omega)];exact hz.out.symm
   go_wp2;go_ret2;exact⟨by rw[hV2.out];rfl,hbl1.trans (hbl2.mono hz1)⟩
end Go.Proofs.YtinibgklgehdpaaGreatDoor
