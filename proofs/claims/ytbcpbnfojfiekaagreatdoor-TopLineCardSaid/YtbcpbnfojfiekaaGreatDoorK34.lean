/- A part of what the last text stands on. -/
import Derived.Test.YtbcpbnfojfiekaaGreatDoorK30
import Derived.Test.YtbcpbnfojfiekaaGreatDoorK32
namespace Go.Proofs.YtbcpbnfojfiekaaGreatDoor
open Go.ChangeShapes Go.WideShapes Go.ChangeAt Go.RowKit Go.Proofs.Tryz Qa Qb Qc
set_option linter.all false
set_option maxHeartbeats 20000000
set_option maxRecDepth 100000
variable{h:View}{k:Nat}
namespace Fl
theorem Zim{x:Hdr}{vb vp:Value}(r1:RDigs h vb x.batches)(r2:RDigs h vp x.parents):RMsg h (offM x) (.slice none 0 0) vb vp (.slice none 0 0) (.slice none 0 0) (.slice none 0 0) (.slice none 0 0) :=
 ⟨RVec.nil _ _ _,r1,r2,RVec.nil _ _ _,RDigs.nil _,RDigs.nil _,RVec.nil _ _ _⟩
structure KeepO (n m:Nd):Prop where
 kn:KeepN n m
 own:m.own=n.own
 voters:m.voters=n.voters
theorem KeepO.send{n m:Nd}(h:KeepO n m)(tw:Int)(x:Msg):KeepO n (send m tw x):=by
 refine⟨h.kn.send tw x,?_,?_⟩
 ·unfold Fl.send;split<;>exact h.own
 ·unfold Fl.send;split<;>exact h.voters
theorem Zyy(a:k<4):all4.take (k+1)=all4.take k++[(k:Int)]:=by
 unfold all4
 rcases k with _|_|_|_|k<;>first|rfl|omega
theorem Zyz(i tb g off:Nat)(n:Nd)(h:Hdr)(o:Own)(w:World)(hl:Lim o w)(hi:i<5)(hN:NodeAt o w i tb g off n)(t:n.own=some h)(h5:n.voters.length≤5)(h4:n.out.length≤400)(h8:n.digs.length≤800)(K:n.digs.length≤n.bats.length)(h9:n.bats.length≤800) :
 Calls prog 158 #[.pointer (some ⟨g,off,none⟩)] w fun e w'=>e=.returned (.tuple #[])∧∃o',NFr i tb g off o w o' w'∧NodeAt o' w' i tb g off (again n):=by
 obtain⟨QR,M⟩:∃q,Hid (again n=q):=⟨_,rfl⟩;have HQ:Hid (QR=all4.foldl (Zej h) n):=by show _=_;rw[←M.out];unfold again;rw[t]
 rw[M.out];have H4:=Zb h4;have H5:=Zb h5;have H8:=Zb h8;have HB:=Zb K;have H9:=Zb h9;have C:=Zb t;clear h4 h5 h8 K h9 t;go_enter func158,ntmps158;go_wp2_with fail
 go_loopw [2,4,5,6,23] (fun _ _ _ j _ wr=>∃(k:Nat) (o':Own) (m:Nd),k≤4∧j=.int .i64 k∧Hid (m=(all4.take k).foldl (Zej h) n)∧NFr i tb g off o w o' wr∧NodeAt o' wr i tb g off m∧KeepO n m) (fun _ _ _ j _ _=>4-(intOf j).toNat)
 case atStart=>exact⟨0,o,n,Zf _,rfl,rfl,NFr.refl hl,hN,⟨KeepN.refl H4.out,rfl,rfl⟩⟩
 case round =>
  obtain⟨k,o1,m,ht,rfl,X,F1,N1,K1⟩:=hrel
  by_cases S:k<4
  ·have H:(k:Int)<4:=by omega
   have l1:=F1.fr.lim
   have c:Hid ((all4.take (k+1)).foldl (Zej h) n=Zej h m (k:Int)):=by
    show _=_;rw[Zyy S,List.foldl_append,←X.out];rfl
   obtain⟨f,⟨ytx,yba,ydi,yta,yda,yow,ymi,yvo,ytp,you⟩,S2,R2⟩:=id N1;have p:=Ztc (R2.vo.reads (bs:=8) RI.mono (by rw[K1.voters];have:=H5.out;omega));have s8:=S2.nd8;have s10:=S2.nd10;have row:=R2.ow;rw[K1.own,C.out]at row;obtain⟨ob,ovb,ovp,u,c0,c1,c2,c3,rbX,rpX⟩:=row;have u:yow=.pointer (some ⟨ob,0,none⟩):=u;subst u;simp only at s8 s10 p;obtain⟨vA,vcp,rfl,_⟩:=id p;obtain⟨bA,bc,rfl,F⟩:=id rbX;have c2':=Zah _ _ _ _ c2;obtain⟨QV,y⟩:∃q,Hid (decide ((k:Int)∈m.voters)=q):=⟨_,rfl⟩;clear F c0 c1 c2 c3 f;go_wp2_with fail;refine(Zgw _ m.voters (k:Int) _ p).mono ?_;rintro e w2 ⟨rfl,rfl⟩;rw[y.out];cases QV
   rotate_left
   ·have d:Hid (m=(all4.take (k+1)).foldl (Zej h) n):=by
     show _=_;rw[c.out];unfold Zej;rw[if_pos (by simpa using y.out)]
    clear c S2 R2 s8 s10 p c2' rbX rpX;go_wp2;go_roundw
    case rel=>exact⟨k+1,o1,m,by omega,by go_num,d,F1,N1,K1⟩
    case measure=>simp[intOf]<;>omega
   have Y:Hid ((k:Int)∉m.voters):=by show ¬_;simpa using y.out
   clear y;have s0:=S2.nd0;go_wp2_with fail;obtain⟨wo,h2⟩:∃wo:World,wo=w2:=⟨_,rfl⟩;subst h2;have he:h.batches.length*24≤140737488355328:=(RDigs.at rbX).2.2.1
   go_loopw [4,5,23] (fun _ _ j wr=>∃(q:Nat) (o':Own) (m':Nd),q≤h.batches.length∧j=.int .i64 q∧Hid (m'=(h.batches.take q).foldl (sendB (k:Int)) m)∧NFr i tb g off o w o' wr∧NodeAt o' wr i tb g off m'∧KeepO n m'∧VLe (Zas o1 wo) (Zas o' wr)) (fun _ _ j _=>h.batches.length-(intOf j).toNat)
   case atStart=>exact⟨0,o1,m,Zf _,rfl,rfl,F1,N1,K1,fun a v h=>h⟩
   case round =>
    clear N1 F1 l1 S2 R2 s0 s8 s10 p c2';obtain⟨q,o2,m2,hq,rfl,f,F2,N2,K2,O⟩:=hrel;have l2:=F2.fr.lim;have rbY:=rbX.mono Ze O
    by_cases B:q<h.batches.length
    ·have h0:(q:Int)<h.batches.length:=by omega
     obtain⟨-,-,-,Q⟩:=RDigs.at rbY;obtain⟨b3,o3,d3,Z,t0,r0⟩:=Q q B;subst Z;have t0':=Zah _ _ _ _ t0;have x:=Zb (show(h.batches.take (q+1)).foldl (sendB (k:Int)) m=sendB (k:Int) ((h.batches.take q).foldl (sendB (k:Int)) m) h.batches[q] by rw[Zn B,List.foldl_append];rfl);obtain⟨xA,xc,rfl,T⟩:=id r0;clear T Q t0;generalize h.batches[q]=D at *;go_wp2_with fail;refine(Zg9 i tb g off m2 _ D o2 _ N2 (r0.mono (Zah _ _)) (by rw[K2.kn.digs];exact H8.out)).mono ?_;rintro e w5 ⟨rfl,z⟩;have N5:=N2.below l2 z;have F5:=F2.below z;have l5:=Zam l2 z;have v5:=Zaf l2 z;have E:=O.trans v5
     rcases Zfy (·==D) m2.digs with ⟨p1,-⟩|⟨a,ha,p1,-,-⟩
     ·rw[show held m2 D= -1 from p1]
      have d:Hid (m2=(h.batches.take (q+1)).foldl (sendB (k:Int)) m):=by
       show _=_;rw[x.out,←f.out];unfold sendB;rw[show held m2 D= -1 from p1,if_neg (by omega)]
      clear p1 x N2 F2 l2 rbY t0' r0;go_wp2;go_roundw
      case rel=>exact⟨q+1,o2,m2,by omega,by go_num,d,F5,N5,K2,E⟩
      case measure=>simp[intOf]<;>omega
     ·rw[show held m2 D=(a:Int) from p1];have L:a<m2.digs.length:=ha;have P:a<m2.bats.length:=by have:=HB.out;rw[K2.kn.digs]at L;rw[K2.kn.bats];omega
      have d:Hid ((h.batches.take (q+1)).foldl (sendB (k:Int)) m=send m2 (k:Int) (batM m2.bats[a])):=by
       show _=_;rw[x.out,←f.out];unfold sendB;rw[show held m2 D=(a:Int) from p1,if_pos (by omega)];simp[P]
      have hb:m2.bats.length≤800:=by rw[K2.kn.bats];exact H9.out
      clear p1 x N2 F2 l2 rbY t0' r0 ha L;obtain⟨hg,⟨ztx,zba,zdi,zta,zda,zow,zmi,zvo,ztp,zou⟩,S5,R5⟩:=id N5;obtain⟨yA,yc,l⟩:=R5.ba.form;have l:zba=.slice yA m2.bats.length yc:=l;subst l;have s4:=S5.nd4;simp only at s4;have h3:=R5.ba.ownSl.reads (bs:=40) (fun _ _ _ _ hx _=>hx) (by omega);obtain⟨A9,c9,h1,hw,-,-,-,W⟩:=h3;injection h1 with he1 _ he3;subst he1 he3;obtain⟨bb,bo,R,A⟩:=W (by omega);subst R;obtain⟨cs9,-,b,vt,rfl,rt,I⟩:=A a P;have y0:w5.cell? ⟨bb,bo+a*3,none⟩=some (.int .i64 m2.bats[a].author):=b 0 (by decide);have y1:w5.cell? ⟨bb,bo+a*3+1,none⟩=some (.int .i64 m2.bats[a].number):=b 1 (by decide);have y2:w5.cell? ⟨bb,bo+a*3+2,none⟩=some vt:=b 2 (by decide);obtain⟨tA,tc,rfl,V⟩:=id rt;have hc:(a:Int)<m2.bats.length:=by omega
      clear V b A S5 R5;generalize m2.bats[a]=bt at *;go_wp2_with fail;refine(Zfa i tb g off m2 (k:Int) (batM bt) _ _ _ _ _ _ _ o2 _ l5 hi N5 (Zko rt) I K2.kn.out).mono ?_;rintro e w6 ⟨rfl,o6,F56,N6⟩;have F6:=F5.trans F56;have G:=E.trans F56.fr.view;have K6:=K2.send (k:Int) (batM bt);clear N5 F5 s4 y0 y1 y2 rt I;go_wp2;go_roundw
      case rel=>exact⟨q+1,o6,_,by omega,by go_num,d.out.symm,F6,N6,K6,G⟩
      case measure=>simp[intOf]<;>omega
    ·have J:q=h.batches.length:=by omega
     have g0:¬(q:Int)<h.batches.length:=by omega
     have d:Hid ((all4.take (k+1)).foldl (Zej h) n=send m2 (k:Int) (offM h)):=by
      show _=_;rw[c.out];unfold Zej;rw[if_neg Y.out,f.out,J,List.take_length]
     obtain⟨U,⟨ztx,zba,zdi,zta,zda,zow,zmi,zvo,ztp,zou⟩,S9,R9⟩:=id N2;have t8:=S9.nd8;simp only at t8;have row:=R9.ow;rw[K2.own,C.out]at row;obtain⟨ob2,ovb2,ovp2,r,d0,d1,d2,d3,rb9,rp9⟩:=row;have r:zow=.pointer (some ⟨ob2,0,none⟩):=r;subst r;obtain⟨b9,b9c,rfl,F⟩:=id rb9;obtain⟨p9,p9c,rfl,h6⟩:=id rp9;have e0:=Zah _ _ _ _ d0;have e1:=Zah _ _ _ _ d1;have e2:=Zah _ _ _ _ d2;have e3:=Zah _ _ _ _ d3;clear F h6 d0 d1 d2 d3 S9 R9 U J f c rbY;go_wp2_with fail;refine(Zfa i tb g off m2 (k:Int) (offM h) _ _ _ _ _ _ _ o2 _ l2 hi N2 (Zim rb9 rp9) (fun s hs=>by cases hs) K2.kn.out).mono ?_;rintro e w6 ⟨rfl,o6,F26,N6⟩;have F6:=F2.trans F26;have K6:=K2.send (k:Int) (offM h);clear N2 F2 e0 e1 e2 e3 rb9 rp9 t8;go_wp2;go_roundw
     case rel=>exact⟨k+1,o6,_,by omega,by go_num,d.out.symm,F6,N6,K6⟩
     case measure=>simp[intOf]<;>omega
  ·have hk:k=4:=by omega
   have N:NodeAt o1 wr i tb g off QR:=by
    rw[HQ.out];have:all4.take k=all4:=by rw[hk];rfl
    rw[this]at X;rw[←X.out];exact N1
   have H:¬(k:Int)<4:=by omega
   clear hk;go_wp2;go_end0;exact⟨rfl,o1,F1,N⟩
end Fl
end Go.Proofs.YtbcpbnfojfiekaaGreatDoor
