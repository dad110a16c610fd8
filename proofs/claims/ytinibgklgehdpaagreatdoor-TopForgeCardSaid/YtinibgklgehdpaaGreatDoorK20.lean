/- A part of what the last text stands on. -/
import Derived.RangeFuncBox
import Derived.RangeFuncLeaves
import Derived.Shelf.Abstract
import Derived.WalkKit
import Derived.OwnWalkIn
import Derived.TacticsInMore
import Derived.LoopNIn
import Derived.LoopIn
import Derived.Maps.AppendAt
import Derived.Test.YtinibgklgehdpaaGreatDoorK09
import Derived.Test.YtinibgklgehdpaaGreatDoorK19
namespace Go.Proofs.YtinibgklgehdpaaGreatDoor
open Go.ChangeShapes Go.WideShapes Go.ChangeAt Go.RowKit Qa Qb Qc
set_option linter.all false
set_option maxHeartbeats 20000000
set_option maxRecDepth 100000
variable{k j:Nat}{n:Fl.Nd}{α:Type}
namespace Fl
theorem Zob{l:List (List UInt8)}(h:∀j (hj:j<l.length),0≤held n l[j]):l.any (fun b=>decide (held n b<0))=false:=by
 rw[List.any_eq_false];intro x hx;obtain⟨i,hi,rfl⟩:=List.getElem_of_mem hx;have:=h i hi;simpa using this
theorem Zoa{l:List (List UInt8)}(hj:j<l.length)(h:held n l[j]<0):l.any (fun b=>decide (held n b<0))=true:=by
 rw[List.any_eq_true];exact⟨l[j],List.getElem_mem hj,by simpa using h⟩
theorem Zwj(n:Nd)(h:Hdr):(vote n h).1.out=n.out:=by
 unfold Fl.vote
 repeat' split
 all_goals rfl
theorem Zu1(i gf off:Nat)(n:Nd)(h:Hdr)(vb vp:Value)(rogue:Int)(signs:List Sign)(o:Own)(w:World)(hl:Lim o w)(hi:i<5)(ho1:1≤off)(ho2:off+15≤61)(hG:SgAt o w gf rogue signs)(hN:NodeAt o w i 0 gf off n)(hT:Tabs (Zas o w))(rb:RDigs (Zas o w) vb h.batches)(rp:RDigs (Zas o w) vp h.parents)(ht4:n.table.length≤400)(h8:n.digs.length≤800)(h4:n.out.length≤400) :
 Calls Tryz.prog 110 #[.pointer (some ⟨gf,0,none⟩),.pointer (some ⟨gf,off,none⟩),.agg #[.int .i64 h.author,.int .i64 h.round,vb,vp]] w fun e w'=>e=.returned (.tuple #[])∧∃o',NFr i 0 gf off o w o' w'∧NodeAt o' w' i 0 gf off (offer signs rogue n h):=by
 obtain⟨bA,bc,rfl,hf1⟩:=id rb;obtain⟨pA,pc,rfl,hf2⟩:=id rp;clear hf1 hf2;obtain⟨QM,hQM⟩:∃q,Hid (Zqc n.dag h=q):=⟨_,rfl⟩;obtain⟨QL,hQL⟩:∃q,Hid (Zu4 n.dag h=q):=⟨_,rfl⟩;obtain⟨QG,hQG⟩:∃q,Hid (signed signs rogue h.author ⟨h.author,h.round,hdR h⟩=q):=⟨_,rfl⟩;obtain⟨QB,hQB⟩:∃q,Hid (h.batches.any (fun b=>decide (held n b<0))=q):=⟨_,rfl⟩
 have hst:Hid (offer signs rogue n h=if h.author=n.me∨QG=false then n else if QM≠0∨0<QL.length then n else if QB then n else if (vote n h).2 then send (vote n h).1 h.author (votM (Zcy n.table h))else(vote n h).1):=by
  show _=_;unfold Fl.offer;rw[hQM.out,hQL.out,hQG.out,hQB.out]
 obtain⟨QR,hQR⟩:∃q,Hid (offer signs rogue n h=q):=⟨_,rfl⟩;have HR:Hid (QR=if h.author=n.me∨QG=false then n else if QM≠0∨0<QL.length then n else if QB then n else if (vote n h).2 then send (vote n h).1 h.author (votM (Zcy n.table h))else(vote n h).1):=by show _=_;rw[←hQR.out];exact hst.out
 rw[hQR.out];clear hst hQR;have H8:=Lib.hid h8;have Ht4:=Lib.hid ht4;have H4:=Lib.hid h4;clear h8 ht4 h4;have ho0:=hl.none w.heap.size (Nat.le_refl _)
 go_enter Tryz.func110,Tryz.ntmps110
 go_upto_region 1 with fail
 refine Zo fun W hk hsz hb=>?_
 have v1:=Zae hl hb;have l1:=Zam hl hb;have N1:=hN.below hl hb;have G1:=hG.below hl hb;have rb1:=rb.mono RDig.mono v1;have rp1:=rp.mono RDig.mono v1;have T1:=hT.mono v1;have F1:NFr i 0 gf off o w o W:=(NFr.refl hl).below hb;have g0:=hk.cell 0;have g1:=hk.cell 1;have g2:=hk.cell 2;have g3:=hk.cell 3;simp at g0 g1 g2 g3;clear hN hG hT rb rp
 go_wp2_with fail
 refine(Zbx h.author h.round _ _ h.batches h.parents _ (rb1.mono RDig.mono (Zag _ _)) (rp1.mono RDig.mono (Zag _ _)) (T1.mono (Zag _ _))).mono ?_;rintro e w2 ⟨dg,rfl,hb2,rd⟩;rw[show Zi4 h.author h.round h.batches h.parents=hdR h from rfl]at rd;have v2:=Zae l1 hb2;have l2:=Zam l1 hb2;have N2:=N1.below l1 hb2;have G2:=G1.below l1 hb2;have rb2:=rb1.mono RDig.mono v2;have rp2:=rp1.mono RDig.mono v2;have T2:=T1.mono v2;have rd2:=rd.mono (Zby l1);have hk2:=hk.kept hb2;have F2:=F1.below hb2;obtain⟨dA,dc,rfl,hform⟩:=id rd2;clear hform rd rb1 rp1 T1 N1 G1 v1 v2 g0 g1 g2 g3 hk hb2 l1 F1;obtain⟨DL,hDL⟩:∃q,Hid ((hdR h).length=q):=⟨_,rfl⟩;rw[hDL.out]at rd2⊢;obtain⟨hmk,⟨vtx,vba,vdi,vta,vda,vow,vmi,vvo,vtp,vou⟩,S2,R2⟩:=id N2;have s0:=S2.nd0
 go_wp2_with fail
 by_cases hme:h.author=n.me
 ·have hmb:(h.author==n.me)=true:=by simpa using hme
  have Hme:=Lib.hid hme;clear hme;refine Zr [] (.q 0 (.q 1 (.q 2 (.q 3 (.q 4 (.q 5 (.q 6 (.q 7 (.q 8 (.q 9 (.q 10 (.q 11 (.q 12 (.q 13 (.q 14 (.q 15 (.q 16 (.l 17 (.q 18 (.q 19 .nil)))))))))))))))))))) fun W3 hS3=>?_
  repeat((first|refine pq (h:=⟨_,fun w' hS=>by(have hx:=hk2.kept hS;have h1:=hx.cell 0;have h2:=hx.cell 1;have h3:=Zaa hS _ _ s0;simp at h1 h2;go_simp;exact rfl),?_⟩)|refine Zq ?_);simp only[sx])
  refine Zah ?_;have N3:=N2.below l2 hS3;have F3:=F2.below hS3;have hr:QR=n:=by rw[HR.out,if_pos (.inl Hme.out)]
  have N3:NodeAt o W3 i 0 gf off QR:=by rw[hr];exact N3
  clear hr;go_wp2
  (try simp only[Exit.inBlock,Exit.then])
  refine bodyPost_ret (results_none rfl _ _ _) rfl ?_;exact⟨rfl,o,F3,N3⟩
 have hmb:(h.author==n.me)=false:=by simpa using hme
 have Hme:=Lib.hid hme;clear hme
 go_cut [38] (fun v w'=>v=.bool (!QG)∧Below w2.heap.size w2 w')
 case first =>
  refine Zr [] (.q 0 (.q 1 (.q 2 (.q 3 (.q 4 (.q 5 (.q 6 (.q 7 (.q 8 (.q 9 (.q 10 (.q 11 (.q 12 (.q 13 (.q 14 (.q 15 (.q 16 (.l 17 (.q 18 (.q 19 .nil)))))))))))))))))))) fun W3 hS3=>?_
  repeat((first|refine pq (h:=⟨_,fun w' hS=>by(have hx:=hk2.kept hS;have h1:=hx.cell 0;have h2:=hx.cell 1;have h3:=Zaa hS _ _ s0;simp at h1 h2;go_simp;exact rfl),?_⟩)|refine Zq ?_);simp only[sx])
  refine Zd fun K hK=>?_
  try simp only[sy]
  go_simp;refine(Zk4 gf rogue signs h.author ⟨h.author,h.round,hdR h⟩ _ o _ (G2.below l2 hS3) ((rd2.mono (Zae l2 hS3)).mono (Zag _ _))).mono ?_;rintro e w4 ⟨rfl,hb4⟩;rw[hQG.out];have hS4:=hS3.trans (hb4.mono hS3.size);refine hK.out _ _ (hS4) fun hS=>?_
  clear hK K
  try simp only[sx]
  repeat(refine Zq ?_;simp only[sx])
  refine Zah ?_
  go_wp2_with fail
  go_meet;exact⟨rfl,hS4⟩
 case rest =>
  obtain⟨rfl,hbc⟩:=hcut;have vc:=Zae l2 hbc;have lc:=Zam l2 hbc;have Nc:=N2.below l2 hbc;have Gc:=G2.below l2 hbc;have rbc:=rb2.mono RDig.mono vc;have rpc:=rp2.mono RDig.mono vc;have Tc:=T2.mono vc;have hkc:=hk2.kept hbc;have Fc:=F2.below hbc;have s7:=Zaa hbc _ _ S2.nd7;have rda:=(R2.da.mono RCrt.mono vc).mono RCrt.mono (Zag _ _);clear N2 G2 rb2 rp2 T2 hk2 F2 S2 R2 s0 rd2 vc l2 hb;simp only at s7;cases QG
  ·have hr:QR=n:=by rw[HR.out,if_pos (.inr rfl)]
   have Nc:NodeAt o wc i 0 gf off QR:=by rw[hr];exact Nc
   clear hr;go_wp2
   (try simp only[Exit.inBlock,Exit.then])
   refine bodyPost_ret (results_none rfl _ _ _) rfl ?_;exact⟨rfl,o,Fc,Nc⟩
  have HR:Hid (QR=if QM≠0∨0<QL.length then n else if QB then n else if (vote n h).2 then send (vote n h).1 h.author (votM (Zcy n.table h))else(vote n h).1):=by
   show _=_;rw[HR.out,if_neg (fun e=>e.elim Hme.out (by decide))]
  obtain⟨daA,dac,hda,_⟩:=id rda;have hda:vda=.slice daA n.dag.length dac:=hda;subst hda;obtain⟨wc0,hwc0⟩:∃w':World,w'=wc:=⟨_,rfl⟩;subst hwc0
  go_upto_region 3 with fail
  go_cut [8,9] (fun v e w'=>∃mA mc,v=.slice mA QL.length mc∧e=.int .i64 QM∧Below wc0.heap.size wc0 w')
  case first =>
   refine Zr [10] (.q 0 (.q 1 (.q 2 (.q 3 (.q 4 (.l 5 (.q 6 (.q 7 (.q 8 (.q 9 (.qc 10 .nil))))))))))) fun W3 hS3=>?_
   repeat((first|refine pq (h:=⟨_,fun w' hS=>by(have hx:=hkc.kept hS;have h1:=hx.cell 0;have h2:=hx.cell 1;have h4:=hx.cell 2;have h5:=hx.cell 3;have h3:=Zaa hS _ _ s7;simp at h1 h2 h4 h5;go_simp;exact rfl),?_⟩)|refine Zq ?_);simp only[sx])
   refine Zd fun K hK=>?_
   try simp only[sy]
   go_simp;have q3:=Zaa hS3;refine(Zl7 _ n.dag h _ _ _ (rda.mono RCrt.mono q3) ((rbc.mono RDig.mono (Zag _ _)).mono RDig.mono q3) ((rpc.mono RDig.mono (Zag _ _)).mono RDig.mono q3) ((Tc.mono (Zag _ _)).mono q3)).mono ?_;rintro e w4 ⟨d4,rfl,hb4,rd4⟩;rw[hQM.out];rw[hQL.out]at rd4;obtain⟨mA,mc,rfl,_⟩:=id rd4;have hS4:=hS3.trans (hb4.mono hS3.size);refine hK.out _ _ (hS4) fun hS=>?_
   clear hK K
   try simp only[sx]
   repeat(refine Zq ?_;simp only[sx])
   refine Zah ?_
   go_wp2_with fail
   go_meet;exact⟨mA,mc,rfl,rfl,hS4⟩
  case rest =>
   obtain⟨mA,mc,rfl,rfl,hbd⟩:=hcut;have vd:=Zae lc hbd;have ld:=Zam lc hbd;have Nd:=Nc.below lc hbd;have rbd:=rbc.mono RDig.mono vd;have rpd:=rpc.mono RDig.mono vd;have Td:=Tc.mono vd;have hkd:=hkc.kept hbd;have Fd:=Fc.below hbd;clear Nc Gc rbc rpc Tc hkc Fc rda s7 vd lc
   by_cases hM:QM=0
   rotate_left
   ·have hMb:(QM==0)=false:=by simpa using hM
    have hr:QR=n:=by rw[HR.out,if_pos (.inl hM)]
    have Nd:NodeAt o wc i 0 gf off QR:=by rw[hr];exact Nd
    clear hr;go_wp2
    (try simp only[Exit.inBlock,Exit.then])
    refine bodyPost_ret (results_none rfl _ _ _) rfl ?_;exact⟨rfl,o,Fd,Nd⟩
   have hMb:(QM==0)=true:=by simpa using hM
   have HM:=Lib.hid hM;clear hM
   by_cases hL:0<QL.length
   ·have hL':(0:Int)<QL.length:=by omega
    have hr:QR=n:=by rw[HR.out,if_pos (.inr hL)]
    have Nd:NodeAt o wc i 0 gf off QR:=by rw[hr];exact Nd
    clear hr;go_wp2
    (try simp only[Exit.inBlock,Exit.then])
    refine bodyPost_ret (results_none rfl _ _ _) rfl ?_;exact⟨rfl,o,Fd,Nd⟩
   have hL':¬(0:Int)<QL.length:=by omega
   have HR:Hid (QR=if QB then n else if (vote n h).2 then send (vote n h).1 h.author (votM (Zcy n.table h))else(vote n h).1):=by
    show _=_;rw[HR.out,if_neg (fun e=>e.elim (fun q=>q HM.out) hL)]
   clear hL;have b0:=hkd.cell 0;have b1:=hkd.cell 1;have b2:=hkd.cell 2;have b3:=hkd.cell 3;simp at b0 b1 b2 b3;have rbe:=rbd.mono RDig.mono (Zag _ _);obtain⟨_,hbcap,hblen,hbel⟩:=RDigs.at rbe;have Hel:=Lib.hid hbel;clear rbe hbel;obtain⟨wd,hwd⟩:∃w':World,w'=wc:=⟨_,rfl⟩;subst hwd
   go_wp2_with fail
   go_loopw [11,58] (fun _ c wr=>∃k:Nat,k≤h.batches.length∧c=.int .i64 k∧Hid (∀j (hj:j<h.batches.length),j<k→0≤held n h.batches[j])∧Below wd.heap.size wd wr) (fun _ c _=>h.batches.length-(intOf c).toNat)
   case atStart=>exact⟨0,Nat.zero_le _,rfl,fun j _ hj=>by omega,Below.refl _ _⟩
   case round =>
    obtain⟨k,hk,rfl,hno,hbl⟩:=hrel;have vk:=Zae ld hbl;have lk:=Zam ld hbl;have Nk:=Nd.below ld hbl;have Fk:=Fd.below hbl
    by_cases hlt:k<h.batches.length
    ·obtain⟨k0,o0,d,rfl,q0,hd⟩:=Hel.out k hlt;have c0:=Zaa hbl _ _ q0;have hd':=hd.mono (Zaa hbl);obtain⟨eA,ec,rfl,_⟩:=id hd;clear q0 hd
     by_cases hh:held n h.batches[k]<0
     ·have hq:QB=true:=by rw[←hQB.out];exact Zoa hlt hh
      have hr:QR=n:=by rw[HR.out,if_pos hq]
      have Nr:NodeAt o wr i 0 gf off QR:=by rw[hr];exact Nk
      clear hr
      go_wp2_with fail
      refine(Zgt i 0 gf off n _ h.batches[k] o _ Nk hd' H8.out).mono ?_;rintro e w5 ⟨rfl,hb5⟩;have N5:=Nr.below lk hb5;have F5:=Fk.below hb5;go_wp2
      (try simp only[Exit.inBlock,Exit.then])
      refine bodyPost_ret (results_none rfl _ _ _) rfl ?_;exact⟨rfl,o,F5,N5⟩
     ·go_wp2_with fail
      refine(Zgt i 0 gf off n _ h.batches[k] o _ Nk hd' H8.out).mono ?_;rintro e w5 ⟨rfl,hb5⟩;have hb6:=hbl.trans (hb5.mono hbl.size)
      have hno5:Hid (∀j (hj:j<h.batches.length),j<k+1→0≤held n h.batches[j]):=by
       show ∀j (hj:j<h.batches.length),j<k+1→0≤held n h.batches[j];intro j hj hjk
       rcases Nat.lt_or_ge j k with h1|h1
       ·exact hno.out j hj h1
       ·have:j=k:=by omega
        subst this;omega
      go_wp2;go_roundw
      case rel=>exact⟨k+1,by omega,by go_num,hno5,hb6⟩
      case measure=>simp[intOf];omega
    ·have hke:k=h.batches.length:=by omega
     have hq:¬QB=true:=by rw[←hQB.out,Zob (fun j hj=>hno.out j hj (by omega))];decide
     have HR:Hid (QR=if (vote n h).2 then send (vote n h).1 h.author (votM (Zcy n.table h))else(vote n h).1):=by
      show _=_;rw[HR.out,if_neg hq]
     clear hno hq;obtain⟨QV,hQV⟩:∃q,Hid ((vote n h).2=q):=⟨_,rfl⟩;obtain⟨QN,hQN⟩:∃q,Hid ((vote n h).1=q):=⟨_,rfl⟩;obtain⟨QS,hQS⟩:∃q,Hid (Zcy n.table h=q):=⟨_,rfl⟩;rw[hQV.out,hQN.out,hQS.out]at HR;have hout:Hid (QN.out=n.out):=by show _=_;rw[←hQN.out];exact Zwj n h
     have rbk:=rbd.mono RDig.mono vk;have rpk:=rpd.mono RDig.mono vk;have Tk:=Td.mono vk;have hkk:=hkd.kept hbl;have p0:=hkk.cell 0;have p1:=hkk.cell 1;have p2:=hkk.cell 2;have p3:=hkk.cell 3;simp at p0 p1 p2 p3;clear b0 b1 b2 b3 rbd rpd Td hkd Nd Fd Hel
     go_wp2_with fail
     refine(Zwk i 0 gf off n h _ _ o _ lk hi Nk Tk rbk rpk Ht4.out).mono ?_;rintro e w5 ⟨sd,rfl,o5,F5,N5,rsd⟩;rw[hQV.out,hQS.out];rw[hQN.out]at N5;rw[hQS.out]at rsd;obtain⟨sA,sc,rfl,hfs⟩:=id rsd;clear hfs;have l5:=F5.fr.lim;have hB6:=Blk.new w5 61 #[.int .i64 0,.int .i64 0,.slice none 0 0];have hb6:=Zac w5 (.cells #[.int .i64 0,.int .i64 0,.slice none 0 0] 61);have F5k:=Fk.trans F5
     go_wp2_with (refine Zj 3 hB6 ?_)
     intro w6 hB hg6;have hb5:Below w5.heap.size w5 w6:=Zab hb6 hb6.size hg6 (by intro k e;injection e;omega);have l6:=Zam l5 hb5;have N6:=N5.below l5 hb5;have F6:=F5k.below hb5;have rsd6:=rsd.mono (Zae l5 hb5);have hk6:=(Za3 hkk F5.fr ho0).kept hb5;clear hB6 hb6 hg6 rsd N5 F5k F5 p0 p1 p2 p3 hkk rbk rpk Tk;cases QV
     ·have hr:QR=QN:=by rw[HR.out,if_neg (by decide)]
      have Nr:NodeAt o5 w6 i 0 gf off QR:=by rw[hr];exact N6
      clear hr;go_wp2;go_end0;exact⟨rfl,o5,F6,Nr⟩
     ·have hr:QR=send QN h.author (votM QS):=by rw[HR.out,if_pos rfl]
      have p0:=hk6.cell 0;have p1:=hB.cell 0;have p2:=hB.cell 1;have p3:=hB.cell 2;simp at p0 p1 p2 p3
      go_wp2_with fail
      refine(Ze5 i 0 gf off QN h.author (votM QS) _ _ _ _ _ _ _ o5 _ l6 hi N6 (Zrg rsd6) (fun s hs=>by cases hs) (by rw[hout.out];exact H4.out)).mono ?_;rintro e w7 ⟨rfl,o7,F7,N7⟩;have Nr:NodeAt o7 w7 i 0 gf off QR:=by rw[hr];exact N7
      have F8:=F6.trans F7;clear hr N7;go_wp2;go_end0;exact⟨rfl,o7,F8,Nr⟩
end Fl
section
open Go.Shelf
attribute [local go_sem] Oper.semAt_some
namespace Fls
def upto(f:Nat→α)(k:Nat):List α:=(List.range k).map f
theorem upto_succ(f:Nat→α)(k:Nat):upto f (k+1)=upto f k++[f k]:=by simp[upto,List.range_succ]
theorem Zps(f:Nat→α)(k:Nat):(upto f k).length=k:=by simp[upto]
theorem Zwm(zs:List Int):upto (fun j=>zs[j]?.getD 0) zs.length=zs:=by
 apply List.ext_getElem
 ·simp[upto]
 ·intro i h1 h2;simp[upto,h2]
theorem Zt5(zs:List Int)(hk:k≤zs.length):upto (fun j=>zs[j]?.getD 0) k=zs.take k:=by
 apply List.ext_getElem
 ·simp[upto,hk]
 ·intro i h1 h2;have:i<zs.length:=by simp[upto]at h1;omega
  simp[upto,this]
theorem Zsg(F:Fence)(n:Nat)(h7:F.fn 178)(hro:F.round=none)(hn:1≤n)(l Bs n₀ b off len cap:Nat)(zs:List Int)(hreach:len*8≤140737488351232)(hb:b<n₀)(J Jx:List Int→World→Prop)(hY:∀pre x W,J pre W→pre.length<len→YieldAt F (n-1) Tryz.prog l #[.int .i64 x] W fun e W' => (e=.returned (.bool true)∧J (pre++[x]) W'∧Below n₀ W W')∨(e=.returned (.bool false)∧Jx (pre++[x]) W'))(W:World)(hBs:W.cell? ⟨Bs,0,none⟩=some (.slice (some ⟨b,off,none⟩) len cap))(hc:∀j,j<len→W.cell? ⟨b,off+j,none⟩=some (.int .i64 (zs[j]?.getD 0)))(h0:J [] W) :
 CallsIn F n Tryz.prog 178 #[.func (.yield l) #[] #[],.pointer (some ⟨Bs,0,none⟩)] W fun e W'=>(∃v,e=.returned v) ∧
  ((∃ys,ys=upto (fun j=>zs[j]?.getD 0) len∧J ys W')∨(∃pre,(∃k,k≤len∧pre=upto (fun j=>zs[j]?.getD 0) k)∧Jx pre W')):=by
 refine callsIn_of_wp Tryz.func178 rfl h7 ?_ hro;simp only[Tryz.ntmps178,List.size_toArray,List.length_cons,List.length_nil,Nat.reduceAdd,Nat.reduceSub,Array.replicate_succ,Array.replicate_zero,List.push_toArray,List.append_toArray,List.nil_append,List.cons_append]
 gi_wp2
 gi_loopw [7] (fun i wr=>∃k:Nat,k≤len∧i=.int .i64 k∧J (upto (fun j=>zs[j]?.getD 0) k) wr∧Below n₀ W wr)
  (fun i _=>len-(intOf i).toNat)
 case atStart=>exact⟨0,Nat.zero_le _,rfl,h0,Below.refl _ _⟩
 case round =>
  obtain⟨k,hk,rfl,hJs,hnx⟩:=hrel;have hcx:k<len→wr.cell? ⟨b,off+k,none⟩=some (.int .i64 (zs[k]?.getD 0)):=fun h=>(hnx.cell (p:=⟨b,off+k,none⟩) hb).trans (hc k h)
  by_cases hlt:k<len
  ·obtain⟨fn,tmps,assign,body,hy,hR⟩:=hY _ (zs[k]?.getD 0) wr hJs (by rw[Zps];exact hlt);have hcx':=hcx hlt
   gi_wp2
   refine hR.mono ?_;rintro e W3 (⟨rfl,hJ3,hk3⟩|⟨rfl,hJx3⟩)
   ·gi_wp2
    go_roundw
    case rel=>exact⟨k+1,by omega,by simp,by rw[upto_succ];exact hJ3,hnx.trans hk3⟩
    case measure=>simp[intOf];omega
   ·gi_wp2
    refine bodyPost_ret (results_none rfl _ _ _) rfl ?_;exact⟨⟨_,rfl⟩,.inr ⟨_,⟨k+1,by omega,(upto_succ _ _).symm⟩,hJx3⟩⟩
  ·obtain rfl:k=len:=by omega
   gi_wp2
   go_end0;exact⟨⟨_,rfl⟩,.inl ⟨_,rfl,hJs⟩⟩
def Ints(n₀:Nat)(W:World)(sv:Value)(zs:List Int):Prop :=
 (sv=.slice none 0 0∧zs=[])∨∃b off cap,sv=.slice (some ⟨b,off,none⟩) zs.length cap∧b<n₀∧∀j,j<zs.length→W.cell? ⟨b,off+j,none⟩=some (.int .i64 (zs[j]?.getD 0))
theorem Ints.below{n₀:Nat}{A B:World}(h:Below n₀ A B){sv:Value}{zs:List Int}:Ints n₀ A sv zs→Ints n₀ B sv zs
 |.inl e=>.inl e
 |.inr ⟨b,off,cap,e,hb,hc⟩=>.inr ⟨b,off,cap,e,hb,fun j hj=>(h.cell (p:=⟨b,off+j,none⟩) hb).trans (hc j hj)⟩
theorem Zlx(F:Fence)(n:Nat)(h7:F.fn 178)(hro:F.round=none)(l Bs:Nat)(J:List Int→World→Prop)(W:World)(hBs:W.cell? ⟨Bs,0,none⟩=some (.slice none 0 0))(h0:J [] W) :
 CallsIn F n Tryz.prog 178 #[.func (.yield l) #[] #[],.pointer (some ⟨Bs,0,none⟩)] W fun e W'=>(∃v,e=.returned v)∧J [] W':=by
 refine callsIn_of_wp Tryz.func178 rfl h7 ?_ hro;simp only[Tryz.ntmps178,List.size_toArray,List.length_cons,List.length_nil,Nat.reduceAdd,Nat.reduceSub,Array.replicate_succ,Array.replicate_zero,List.push_toArray,List.append_toArray,List.nil_append,List.cons_append]
 gi_wp2
 gi_loopw [7] (fun i wr=>i=.int .i64 0∧J [] wr) (fun _ _=>0)
 case atStart=>exact⟨rfl,h0⟩
 case round =>
  obtain⟨rfl,hJs⟩:=hrel
  gi_wp2
  go_end0;exact⟨⟨_,rfl⟩,hJs⟩
theorem values_in(F:Fence)(n:Nat)(h5:F.fn 148)(hro:F.round=none)(a:Option Addr)(len cap:Nat)(w:World) :
 CallsIn F n Tryz.prog 148 #[.slice a len cap] w fun e w'=>e=.returned (.func (.func 178) #[] #[.pointer (some ⟨w.heap.size,0,none⟩)])∧w'=w.alloc (.cells #[.slice a len cap] 62):=by
 refine callsIn_of_wp Tryz.func148 rfl h5 ?_ hro;simp only[Tryz.ntmps148,List.size_toArray,List.length_cons,List.length_nil,Nat.reduceAdd,Nat.reduceSub,Array.replicate_succ,Array.replicate_zero,List.push_toArray,List.append_toArray,List.nil_append,List.cons_append]
 gi_wp2
 go_ret;exact⟨rfl,rfl⟩
theorem Zoe(F:Fence)(n:Nat)(h7:F.fn 178)(hro:F.round=none)(hn:1≤n)(Bs n₀:Nat)(sv:Value)(zs:List Int)(hreach:zs.length*8≤140737488351232)(w:World)(hBs:Bs<w.heap.size)(hn₀:n₀≤w.heap.size)(hc:w.cell? ⟨Bs,0,none⟩=some sv)(hI:Ints n₀ w sv zs) :
 SeqStopsK F n Tryz.prog 178 #[.pointer (some ⟨Bs,0,none⟩)] (fun x:Int=>#[Value.int .i64 x]) (Below n₀) (fun ys=>ys=zs) (fun pre=>pre <+: zs) zs.length w:=fun l J Jx W hW _ _ hY h0=>by
 have hc':=(hW.cell (p:=⟨Bs,0,none⟩) hBs).trans hc
 rcases hI.below (hW.mono hn₀)with ⟨rfl,rfl⟩|⟨b,off,cap,rfl,hb,hcs⟩
 ·exact(Zlx F n h7 hro l Bs J W hc' h0).mono fun e W' ⟨he,hj⟩=>⟨he,.inl ⟨_,rfl,hj⟩⟩
 ·refine(Zsg F n h7 hro hn l Bs n₀ b off zs.length cap zs hreach hb J Jx hY W hc' hcs h0).mono ?_
  rintro e W' ⟨he,⟨ys,rfl,hj⟩|⟨pre,⟨k,hk,rfl⟩,hj⟩⟩
  ·exact⟨he,.inl ⟨_,Zwm zs,hj⟩⟩
  ·exact⟨he,.inr ⟨_,by rw[Zt5 zs hk];exact List.take_prefix _ _,hj⟩⟩
theorem infoI:(Tryz.prog.info? 3).map (fun i=>(i.zero,i.size,i.bytes))=some (some (.int .i64 0),1,8):=by kernel_rfl
theorem Zpk(F:Fence)(n:Nat)(h3:F.fn 191)(h5:F.fn 178)(hro:F.round=none)(hn:3≤n)(Bs:Nat)(sv:Value)(zs:List Int)(hreach:zs.length*8≤140737488351232)(hlen:zs.length≤maxLen)(w:World)(hBs:Bs<w.heap.size)(hc:w.cell? ⟨Bs,0,none⟩=some sv)(hI:Ints w.heap.size w sv zs) :
 CallsIn F n Tryz.prog 191 #[.slice none 0 0,.func (.func 178) #[] #[.pointer (some ⟨Bs,0,none⟩)]] w fun e W'=>∃v,e=.returned v∧W'.ownsRow w.heap.size 3 1 v zs.length (zs.map (Value.int .i64))∧(v=.slice none 0 0↔zs=[])∧Below w.heap.size w W':=by
 have h1:1≤n:=by omega
 obtain⟨i0,hi,hz0,hz1,hz2⟩:=info_parts infoI;refine callsIn_of_wp_marks Tryz.func191 rfl h3 ?_ hro;simp only[Tryz.ntmps191,List.size_toArray,List.length_cons,List.length_nil,Nat.reduceAdd,Nat.reduceSub,Array.replicate_succ,Array.replicate_zero,List.push_toArray,List.append_toArray,List.nil_append,List.cons_append]
 gi_wp2
 have bO:=Boxed.new w 62 (.slice none 0 0);have hB0:Below w.heap.size w (w.alloc (.cells #[.slice none 0 0] 62)):=(Below.refl _ w).alloc (Nat.le_refl _) _
 refine wpIn_rangeFunc_ownG hro h1 (gf:=178) (lb:=#[.pointer (some ⟨Bs,0,none⟩)]) rfl h5 (enters_of Tryz.func178 (by kernel_rfl) rfl)
  (Zoe F (n-1) h5 hro (by omega) Bs w.heap.size sv zs hreach _ (by simp;omega) (by simp) ((hB0.cell (p:=⟨Bs,0,none⟩) hBs).trans hc) (hI.below hB0)) belowK_t (belowK_b (by simp)) (Below.refl _ _) (fun _=>rfl)
  (fun pre W=>(∃v,Boxed W w.heap.size 62 v∧W.ownsRow w.heap.size 3 1 v pre.length (pre.map (Value.int .i64))∧(v=.slice none 0 0↔pre=[]))∧Below w.heap.size w W)
  (fun _ _ _=>False)
  (OwnFrom.and (Own.from (holdsRow_own w.heap.size w.heap.size 62 3 1 (fun pre=>pre.length) (fun pre=>pre.map (Value.int .i64)) (fun pre v=>v=.slice none 0 0↔pre=[])) _) (ownFrom_below (Nat.le_refl _) (by simp)))
  (fun _ _ _ _ _ hs _ _=>hs)
  ⟨⟨_,bO,World.ownsRow_nil _ _ _ _,by simp⟩,hB0⟩
  (fun x=>{ tmps:=#[.slice none 0 0,.func (.func 178) #[] #[.pointer (some ⟨Bs,0,none⟩)],.pointer (some ⟨w.heap.size,0,none⟩),undef,.slice none 0 0,.int .i64 x,.func (.func 178) #[] #[.pointer (some ⟨Bs,0,none⟩)],.int .i64 x,undef,undef,undef,undef,undef],defers:=[] }) ?assign ?body ?done ?stop
 case assign =>
  intro l x W K hK
  gi_wp2
  exact hK
 case body =>
  rintro l pre x W ⟨⟨v,hv,hrow,hnil⟩,hB⟩ hlt;have hc:=hv.cell
  gi_wp2_with (gi_at_builtin;refine wpListIn_append_own _ rfl _ _ 62 rfl w.heap.size 3 i0 (.int .i64 0) 1 8 Tryz.underlying62 hi hz0 hz1 hz2 rfl (by decide) _ _ _ rfl (hrow.alloc _) ⟨W.heap.size,0,none⟩ 1 1 [.int .i64 x] rfl rfl (cell_one_new _ _ _) (by simp[Value.oneCell']) (by omega) (by omega) (by have:=hB.size;simp;omega) ?_;intro v' w1 hown' hgrow _;obtain⟨g',cap',rfl⟩:=ownsRow_succ hown';obtain⟨hv1,hv2,hr2,hk2,hb2⟩:=hv.appended (by decide) hrow hB.size (Nat.le_refl _) hown' hgrow;have hc1:=hv1.cell;have hf1:=hv1.frozen)
  exact⟨hk2.from _,hb2,⟨_,hv2,by simpa using hr2,by simp⟩,hB.trans hb2⟩
 case done =>
  rintro D ys W hD rfl ⟨⟨v,hv,hrow,hnil⟩,hB⟩ hK;have hc:=hv.cell
  gi_wp2
  refine⟨by simp,.inl ⟨_,_,rfl,run_takeDeferred hK,?_⟩⟩;exact⟨_,results_tmp rfl _ _ _,v,rfl,ownsRow_putObj hrow _ hK rfl,hnil,hB.trans (belowK_b (w:=w) (Nat.le_refl _) W D _ _ (by simp at hD;omega) hK rfl rfl)⟩
 case stop =>
  rintro D c pre W _ _ h _;exact h.elim
theorem Ztj(F:Fence)(n:Nat)(h2:F.fn 176)(h3:F.fn 191)(h5:F.fn 178)(hro:F.round=none)(hn:4≤n)(Bs:Nat)(sv:Value)(zs:List Int)(hreach:zs.length*8≤140737488351232)(hlen:zs.length≤maxLen)(w:World)(hBs:Bs<w.heap.size)(hc:w.cell? ⟨Bs,0,none⟩=some sv)(hI:Ints w.heap.size w sv zs) :
 CallsIn F n Tryz.prog 176 #[.func (.func 178) #[] #[.pointer (some ⟨Bs,0,none⟩)]] w fun e W'=>∃v,e=.returned v∧W'.ownsRow w.heap.size 3 1 v zs.length (zs.map (Value.int .i64))∧(v=.slice none 0 0↔zs=[])∧Below w.heap.size w W':=by
 refine callsIn_of_wp Tryz.func176 rfl h2 ?_ hro;simp only[Tryz.ntmps176,List.size_toArray,List.length_cons,List.length_nil,Nat.reduceAdd,Nat.reduceSub,Array.replicate_succ,Array.replicate_zero,List.push_toArray,List.append_toArray,List.nil_append,List.cons_append]
 gi_wp2
 refine⟨fun _=>by omega,(Zpk F (n-1) h3 h5 hro (by omega) Bs sv zs hreach hlen _ hBs hc hI).mono ?_⟩;rintro e W ⟨v,rfl,hrow,hnil,hb⟩
 gi_wp2
 go_ret;exact⟨v,rfl,hrow,hnil,hb⟩
end Fls
end
end Go.Proofs.YtinibgklgehdpaaGreatDoor
