/- A part of what the last text stands on. -/
import Derived.Test.YtbcpbnfojfiekaaGreatDoorK06
namespace Go.Proofs.YtbcpbnfojfiekaaGreatDoor
open Go.ChangeShapes Go.WideShapes Go.ChangeAt Go.RowKit Go.Proofs.Tryz Qa Qb Qc
set_option linter.all false
set_option maxHeartbeats 20000000
set_option maxRecDepth 100000
namespace Ln
theorem Zug(w:World)(c1 c2 c3:Array Value)(t1 t2 t3:TypeId)(R:World→Prop)(h:∀W,Blk W w.heap.size t1 c1→Blk W (w.heap.size+1) t2 c2→Blk W (w.heap.size+2) t3 c3→W.heap.size=w.heap.size+3→Below w.heap.size w W→R W):R (((w.alloc (.cells c1 t1)).alloc (.cells c2 t2)).alloc (.cells c3 t3)):=by
 refine h _ (((Blk.new w t1 c1).alloc _).alloc _) ?_ ?_ (by simp) ((((Zm _ _).alloc (Za _) _).alloc (Zar _ (Za _)) _).alloc (Zar _ (Zar _ (Za _))) _)
 ·have:=(Blk.new (w.alloc (.cells c1 t1)) t2 c2).alloc (.cells c3 t3);simpa using this
 ·have:=Blk.new ((w.alloc (.cells c1 t1)).alloc (.cells c2 t2)) t3 c3;simpa using this
theorem Zs5(c:UInt8)(l:List UInt8):∀x∈spl c l,x.length≤l.length:=by
 induction l with
 |nil=>intro x a;simp[spl]at a;subst a;exact Za _
 |cons b l ih =>
  intro x a;unfold spl at a;split at a
  ·rcases List.mem_cons.1 a with rfl|h
   ·simp
   ·have:=ih x h;simp;omega
  ·split at a
   ·rename_i h t e
    rcases List.mem_cons.1 a with rfl|d
    ·have:=ih h (by rw[e];simp);simp;omega
    ·have:=ih x (by rw[e];simp[d]);simp;omega
   ·simp at a;subst a;simp
theorem Zsc(S:Nat→ByteArray)(j:Nat)(a:j<11)(w:World):(Instr.index 63 (.agg #[.string (S 0),.string (S 1),.string (S 2),.string (S 3),.string (S 4),.string (S 5),.string (S 6),.string (S 7),.string (S 8),.string (S 9),.string (S 10)]) (.int .i64 j)).run prog w=.ok (.string (S j)) w :=
 match j,a with
 |0,_=>by kernel_rfl
 |1,_=>by kernel_rfl
 |2,_=>by kernel_rfl
 |3,_=>by kernel_rfl
 |4,_=>by kernel_rfl
 |5,_=>by kernel_rfl
 |6,_=>by kernel_rfl
 |7,_=>by kernel_rfl
 |8,_=>by kernel_rfl
 |9,_=>by kernel_rfl
 |10,_=>by kernel_rfl
theorem Zse(a b c:Bool)(S:Nat→Bool)(d:S 0=a)(f:S 1=b)(g:S 2=c)(j:Nat)(e:j<3)(w:World):(Instr.index 98 (.agg #[.bool a,.bool b,.bool c]) (.int .i64 j)).run prog w=.ok (.bool (S j)) w :=
 match j,e with
 |0,_=>by rw[d];kernel_rfl
 |1,_=>by rw[f];kernel_rfl
 |2,_=>by rw[g];kernel_rfl
theorem Zcb(a b c x y z:Bool)(w:World):(Op.equalIn 10000 98 (.agg #[.bool a,.bool b,.bool c]) (.agg #[.bool x,.bool y,.bool z])).run prog w=.ok (a==x&&(b==y&&c==z)) w:=by
 cases a<;>cases b<;>cases c<;>cases x<;>cases y<;>cases z<;>kernel_rfl
theorem Zot:mkS []=ByteArray.empty:=rfl
def Zix(S:Nat→Bool):Nat→Nat
 |0=>0
 |k+1=>if S k then Zix S k+1 else Zix S k
def hasS(K:Int)(j:Nat):Bool:=if j=0 then hN K else if j=1 then hP K else hT K
theorem Ztw(K:Int):Zix (hasS K) 3=Zfd K:=by
 unfold Zfd;simp only[Zix,hasS]
 cases hN K<;>cases hP K<;>cases hT K<;>rfl
theorem one_any(s:ByteArray)(hs:s.size≤33554432)(w:World)(hE:Env w):Calls prog 19 #[.string s] w (OneOut (lineG numP s.data.toList) w):=by
 obtain⟨O,hO⟩:∃O,Hid (lineG numP s.data.toList=O):=⟨_,rfl⟩;have g3:=hO.out;unfold lineG at g3;rw[hO.out];clear hO;have gf:=Zwk s hs;have gn:=spl_ne 32 s.data.toList;have g7:=spl_len 32 s.data.toList
 have gd:∀x∈spl 32 s.data.toList,x.length≤33554432:=fun x hx=>by
  have:=Zs5 32 s.data.toList x hx;have:s.data.toList.length=s.size:=Array.length_toList;omega
 have gu:s.data.toList.length=s.size:=Array.length_toList;rw[gu]at g7;obtain⟨ps,gv⟩:∃ps,spl 32 s.data.toList=ps:=⟨_,rfl⟩;rw[gv]at g3 gf gn g7 gd;cases ps with
 |nil=>exact absurd rfl gn
 |cons p0 r =>
 have sb:=Zb gf;obtain⟨P0,gw⟩:∃P,Hid (mkS p0=P):=⟨_,rfl⟩;have HO:Hid (O=if Zfx p0=0∨r.length≠Zfd (Zfx p0)then none else actR numP (Zfx p0) r):=g3.symm;obtain⟨n,hn⟩:∃n,Hid (r.length=n):=⟨_,rfl⟩;have ho:=Zb gd;have sf:n≤33554432:=by have:=hn.out;simp at g7;omega
 clear gf gn g7 gd gv g3 gu;go_enter func19,ntmps19;go_wp2_with fail;refine(sb.out _ (hE.kept (Zac _ _))).mono ?_;rintro e w2 ⟨rfl,rfl⟩;rw[show(p0::r).length=n+1 by simp[hn.out]];go_upto_region 3 with fail;refine Zug _ _ _ _ _ _ _ (fun W=>Code.wp _ _ _ _ W) (fun W hR hP hA sm hb=>?_);have gx:=hE.kept hb
 have p0c:W.cell? ⟨w.heap.size+1,0,none⟩=some (.string P0):=by
  rw[hP.cell 0,←gw.out];rfl
 have sa:=hP.lt;obtain⟨WS,gi⟩:∃WS:Nat→ByteArray,Hid (∀k,k<11→WS k=mkS (Ze9 k)):=⟨fun k=>mkS (Ze9 k),fun k _=>rfl⟩;have hw:∀k,k<11→W.cell? ⟨0,k,none⟩=some (.string (WS k)):=fun k H=>by rw[gi.out k H];exact gx.words k H
 have w0:=hw 0 (by decide);have w1:=hw 1 (by decide);have w2:=hw 2 (by decide);have w3:=hw 3 (by decide);have w4:=hw 4 (by decide);have w5:=hw 5 (by decide);have w6:=hw 6 (by decide);have w7:=hw 7 (by decide);have w8:=hw 8 (by decide);have w9:=hw 9 (by decide);have w10:=hw 10 (by decide)
 have gh:Hid (∀k,k<11→(((WS k).toList==P0.toList)=decide (Ze9 k=p0))):=by
  show ∀k,k<11→(((WS k).toList==P0.toList)=decide (Ze9 k=p0));intro k H;rw[gi.out k H,←gw.out,ByteArray.toList_eq,ByteArray.toList_eq,Bool.eq_iff_iff];simp[mkS]
 clear hw;have s2:=hA.cell 0;go_wp2;clear w0 w1 w2 w3 w4 w5 w6 w7 w8 w9 w10 s2;obtain⟨AG,gq⟩:∃AG,Hid (Value.agg #[.string (WS 0),.string (WS 1),.string (WS 2),.string (WS 3),.string (WS 4),.string (WS 5),.string (WS 6),.string (WS 7),.string (WS 8),.string (WS 9),.string (WS 10)]=AG):=⟨_,rfl⟩;rw[gq.out]
 have g5:Hid (∀j,j<11→∀w,(Instr.index 63 AG (.int .i64 (j:Nat))).run prog w=.ok (.string (WS j)) w):=by
  show ∀j,j<11→∀w,_;intro j hj w;rw[←gq.out];exact Zsc WS j hj w
 go_loopw [18] (fun i wr=>∃(k:Nat) (K:Int),k≤11∧i=.int .i64 k∧Hid (K=Zhr p0 k)∧Blk wr (w.heap.size+2) 48 #[.int .i64 K,.int .i64 0,.int .i64 0,.string ByteArray.empty]∧W.grownBy wr (some (w.heap.size+2))) (fun i _=>11-(intOf i).toNat)
 case atStart=>exact⟨0,0,by decide,rfl,rfl,hA,Zff _ _⟩
 case round =>
  obtain⟨k,K,H,rfl,Y,d,p⟩:=hrel;have gc:=(hP.grown p (by simp)).cell 0;rw[hP.cell 0 |>.symm,p0c]at gc;have g2:=d.cell 0;have gs:=d.frozen 0;simp at g2
  by_cases I:k<11
  ·have hv:Zhr p0 (k+1)=if 0<k∧Ze9 k=p0 then(k:Int)else Zhr p0 k:=rfl
   by_cases u:0<k∧Ze9 k=p0
   ·have g9:=u.1;have s0:((WS k).toList==P0.toList)=true:=by rw[gh.out k I];simpa using u.2
    have g4:Hid ((k:Int)=Zhr p0 (k+1)):=by show _=_;rw[hv,if_pos u]
    obtain⟨k1,k2⟩:=Zgg d 0 (.int .i64 k);clear hv u;have hi:=g5.out k I;go_wp2;go_roundw
    case rel=>exact⟨k+1,_,by omega,by go_num,g4,k1,Zae p k2⟩
    case measure=>simp[intOf];omega
   ·have g4:Hid (K=Zhr p0 (k+1)):=by show _=_;rw[hv,if_neg u];exact Y.out
    by_cases g9:0<k
    ·have s0:((WS k).toList==P0.toList)=false:=by
      rw[gh.out k I];exact decide_eq_false (fun e=>u ⟨g9,e⟩)
     clear hv u;have hi:=g5.out k I;go_wp2;go_roundw
     case rel=>exact⟨k+1,_,by omega,by go_num,g4,d,p⟩
     case measure=>simp[intOf];omega
    ·clear hv u;have hi:=g5.out k I;go_wp2;go_roundw
     case rel=>exact⟨k+1,_,by omega,by go_num,g4,d,p⟩
     case measure=>simp[intOf];omega
  ·obtain rfl:k=11:=by omega
   replace Y:Hid (K=Zfx p0):=Y;have f:=hR.grown p (by simp);have c:=hP.grown p (by simp);have a:Below w.heap.size w wr:=Zab hb (by have:=hb.size;omega) p (by intro j e;injection e;omega);have si:w.heap.size+3≤wr.heap.size:=by have:=p.size;omega
   have J:Hid (O=if K=0∨n≠Zfd K then none else actR numP K r):=by show _=_;rw[HO.out,Y.out,hn.out]
   have s8:0≤K∧K≤10:=by rw[Y.out];exact Zu5 p0
   clear Y HO g2 gs gc hA hR hP p gh g5 gi I H p0c sa gx;obtain⟨wd,s9⟩:∃wd:World,wd=wr:=⟨_,rfl⟩;subst s9;obtain⟨sl,sk⟩:=s8;have g2:=d.cell 0;have gs:=d.frozen 0;simp at g2;have hl:Hid (∀j,j<3→∀w,(Instr.index 98 (.agg #[.bool (hN K),.bool (hP K),.bool (hT K)]) (.int .i64 (j:Nat))).run prog w=.ok (.bool (hasS K j)) w):=fun j hj w=>Zse _ _ _ (hasS K) rfl rfl rfl j hj w
   obtain⟨B1,D⟩:∃b,Hid (hN K=b):=⟨_,rfl⟩;obtain⟨B2,C⟩:∃b,Hid (hP K=b):=⟨_,rfl⟩;obtain⟨B3,B⟩:∃b,Hid (hT K=b):=⟨_,rfl⟩;rw[D.out,C.out,B.out]at hl;obtain⟨BG,h5⟩:∃BG,Hid (Value.agg #[.bool B1,.bool B2,.bool B3]=BG):=⟨_,rfl⟩;rw[h5.out]at hl
   rcases Nat.eq_zero_or_pos n with rfl|sg
   ·go_wp2_with fail;refine(has_any K _).mono ?_
    rintro e w9 ⟨rfl,rfl⟩;rw[D.out,C.out,B.out];go_wp2;rw[h5.out]
    go_loopw [11,47] (fun mv i wr=>∃k m:Nat,k≤3∧i=.int .i64 k∧mv=.int .i64 m∧Hid (m=Zix (hasS K) k)∧m≤k∧wd=wr) (fun _ i _=>3-(intOf i).toNat)
    case atStart=>exact⟨0,0,by decide,rfl,rfl,rfl,Za _,rfl⟩
    case round =>
     obtain⟨k,m,H,rfl,rfl,hm,s6,rfl⟩:=hrel
     by_cases I:k<3
     ·have hi:=hl.out k I;cases hsk:hasS K k
      ·rw[hsk]at hi;have h9:Hid (m=Zix (hasS K) (k+1)):=by show _=_;unfold Zix;rw[hsk];exact hm.out
       clear hsk;go_wp2;go_roundw
       case rel=>exact⟨k+1,m,by omega,by go_num,rfl,h9,by omega,trivial⟩
       case measure=>simp[intOf];omega
      ·rw[hsk]at hi;have h9:Hid (m+1=Zix (hasS K) (k+1)):=by show _=_;unfold Zix;rw[hsk,if_pos rfl,←hm.out]
       clear hsk;go_wp2;go_roundw
       case rel=>exact⟨k+1,m+1,by omega,by go_num,by go_num,h9,by omega,trivial⟩
       case measure=>simp[intOf];omega
     ·obtain rfl:k=3:=by omega
      have R:Hid (m=Zfd K):=by show _=_;rw[hm.out,Ztw]
      clear hm I hl h5
      by_cases E:K=0∨0≠m
      ·have h8:O=none:=by
        rw[J.out,if_pos];exact E.imp id (fun e q=>e (q.trans R.out.symm))
       have gl:=d.cell 1;have gg:=d.cell 2;have gj:=d.cell 3;simp at gl gg gj
       rcases E with hz|ht
       ·have h7:(K==0)=true:=by rw[hz];rfl
        clear J;go_wp2_with (refine Zj 4 f ?_);intro w9 U V;go_wp2;refine bodyPost_ret (Zag rfl rfl (by kernel_rfl) (by kernel_rfl) U rfl) rfl ?_;exact⟨⟨_,_,_,_,_,rfl,by rw[h8]⟩,Zab a (by have:=a.size;omega) V (by intro j e;injection e;omega)⟩
       ·by_cases hz:K=0
        ·have h7:(K==0)=true:=by rw[hz];rfl
         clear J;go_wp2_with (refine Zj 4 f ?_);intro w9 U V;go_wp2;refine bodyPost_ret (Zag rfl rfl (by kernel_rfl) (by kernel_rfl) U rfl) rfl ?_;exact⟨⟨_,_,_,_,_,rfl,by rw[h8]⟩,Zab a (by have:=a.size;omega) V (by intro j e;injection e;omega)⟩
        ·have h7:(K==0)=false:=by simpa using hz
         have s3:(((0:Nat):Int) != (m:Int))=true:=by simp;omega
         have gr:((m:Int) != ((0:Nat):Int))=true:=by simp;omega
         clear J;go_wp2_with (refine Zj 4 f ?_);intro w9 U V;go_wp2;refine bodyPost_ret (Zag rfl rfl (by kernel_rfl) (by kernel_rfl) U rfl) rfl ?_;exact⟨⟨_,_,_,_,_,rfl,by rw[h8]⟩,Zab a (by have:=a.size;omega) V (by intro j e;injection e;omega)⟩
      ·have hz:K≠0:=fun e=>E (.inl e)
       have ht:0=m:=Classical.byContradiction fun e=>E (.inr e)
       subst ht;have h7:(K==0)=false:=by simpa using hz
       have hh:Hid (O=actR numP K r):=by
        show _=_;rw[J.out,if_neg];rintro(e|e)
        ·exact hz e
        ·exact e R.out
       clear J E
       cases B1<;>cases B2<;>cases B3
       all_goals
        have N:=R.out;unfold Zfd at N;rw[D.out,C.out,B.out]at N
        first|(exfalso;simp at N;done)|(exfalso;simp at N;omega)|clear N
       ·obtain rfl:r=[]:=by
         exact List.eq_nil_of_length_eq_zero (by have:=hn.out;omega)
        have o:=Blk.new wd 98 #[.bool false,.bool false,.bool false];have z:=Zac wd (.cells #[.bool false,.bool false,.bool false] 98);replace f:=f.kept z;replace c:=c.kept z;replace d:=d.kept z;replace a:=a.trans (z.mono a.size);go_wp2_with fail;refine Zt (fun w'=>Below ((wd.alloc (.cells #[.bool false,.bool false,.bool false] 98))).heap.size ((wd.alloc (.cells #[.bool false,.bool false,.bool false] 98))) w') (fun w'=>((wd.alloc (.cells #[.bool false,.bool false,.bool false] 98))).grownBy w' (some w.heap.size)) [8] (.q 0 (.q 1 (.q 2 (.q 3 (.q 4 (.q 5 (.q 6 (.l 7 (.qc 8 .nil))))))))) ?_ ?_
        ·exact⟨Zad _,Zbf _ _⟩
        intro X A G;have L:=G;have h0:=f.kept A
        repeat((first|refine pq (h:=⟨_,fun w' L=>by(have he:=Zcb false false false false false false w';have M:=d.grown L (by simp);have H:=o.grown L (by first|(simp;done)|(simp;omega));have a0:=M.cell 0;have a1:=M.cell 1;have a2:=M.cell 2;have a3:=M.cell 3;have k0:=H.cell 0;have k1:=H.cell 1;have k2:=H.cell 2;simp at a0 a1 a2 a3 k0 k1 k2;go_simp;exact rfl),?_⟩)|refine Zq ?_);simp only[sx])
        refine Zd fun K Y=>?_
        try simp only[sy]
        refine Zh 4 h0 ?_;intro X2 Z F;refine Y.out _ _ (Zae G F) fun L=>?_
        clear Y K
        try simp only[sx]
        repeat(refine Zq ?_;simp only[sx])
        refine Zai ?_;go_wp2;refine bodyPost_ret (Zag rfl rfl (by kernel_rfl) (by kernel_rfl) Z rfl) rfl ?_;refine⟨⟨_,_,_,_,_,rfl,?_⟩,Zab (a.trans (A.mono a.size)) (by have:=a.size;have:=A.size;omega) F (by intro j e;injection e;omega)⟩;rw[hh.out];simp only[actR,Zry,Zrr,Zps,D.out,C.out,B.out,if_true,if_false,Bool.false_eq_true,List.getD_cons_zero,List.getD_cons_succ];simp[Zdp];rfl
   ·go_wp2_with fail;refine(has_any K _).mono ?_
    rintro e w9 ⟨rfl,rfl⟩;rw[D.out,C.out,B.out];go_wp2;rw[h5.out]
    go_loopw [11,47] (fun mv i wr=>∃k m:Nat,k≤3∧i=.int .i64 k∧mv=.int .i64 m∧Hid (m=Zix (hasS K) k)∧m≤k∧wd=wr) (fun _ i _=>3-(intOf i).toNat)
    case atStart=>exact⟨0,0,by decide,rfl,rfl,rfl,Za _,rfl⟩
    case round =>
     obtain⟨k,m,H,rfl,rfl,hm,s6,rfl⟩:=hrel
     by_cases I:k<3
     ·have hi:=hl.out k I;cases hsk:hasS K k
      ·rw[hsk]at hi;have h9:Hid (m=Zix (hasS K) (k+1)):=by show _=_;unfold Zix;rw[hsk];exact hm.out
       clear hsk;go_wp2;go_roundw
       case rel=>exact⟨k+1,m,by omega,by go_num,rfl,h9,by omega,trivial⟩
       case measure=>simp[intOf];omega
      ·rw[hsk]at hi;have h9:Hid (m+1=Zix (hasS K) (k+1)):=by show _=_;unfold Zix;rw[hsk,if_pos rfl,←hm.out]
       clear hsk;go_wp2;go_roundw
       case rel=>exact⟨k+1,m+1,by omega,by go_num,by go_num,h9,by omega,trivial⟩
       case measure=>simp[intOf];omega
     ·obtain rfl:k=3:=by omega
      have R:Hid (m=Zfd K):=by show _=_;rw[hm.out,Ztw]
      clear hm I hl h5
      by_cases E:K=0∨n≠m
      ·have h8:O=none:=by
        rw[J.out,if_pos];exact E.imp id (fun e q=>e (q.trans R.out.symm))
       have gl:=d.cell 1;have gg:=d.cell 2;have gj:=d.cell 3;simp at gl gg gj
       rcases E with hz|ht
       ·have h7:(K==0)=true:=by rw[hz];rfl
        clear J;go_wp2_with (refine Zj 4 f ?_);intro w9 U V;go_wp2;refine bodyPost_ret (Zag rfl rfl (by kernel_rfl) (by kernel_rfl) U rfl) rfl ?_;exact⟨⟨_,_,_,_,_,rfl,by rw[h8]⟩,Zab a (by have:=a.size;omega) V (by intro j e;injection e;omega)⟩
       ·by_cases hz:K=0
        ·have h7:(K==0)=true:=by rw[hz];rfl
         clear J;go_wp2_with (refine Zj 4 f ?_);intro w9 U V;go_wp2;refine bodyPost_ret (Zag rfl rfl (by kernel_rfl) (by kernel_rfl) U rfl) rfl ?_;exact⟨⟨_,_,_,_,_,rfl,by rw[h8]⟩,Zab a (by have:=a.size;omega) V (by intro j e;injection e;omega)⟩
        ·have h7:(K==0)=false:=by simpa using hz
         have s3:(((n:Nat):Int) != (m:Int))=true:=by simp;omega
         have gr:((m:Int) != ((n:Nat):Int))=true:=by simp;omega
         clear J;go_wp2_with (refine Zj 4 f ?_);intro w9 U V;go_wp2;refine bodyPost_ret (Zag rfl rfl (by kernel_rfl) (by kernel_rfl) U rfl) rfl ?_;exact⟨⟨_,_,_,_,_,rfl,by rw[h8]⟩,Zab a (by have:=a.size;omega) V (by intro j e;injection e;omega)⟩
      ·have hz:K≠0:=fun e=>E (.inl e)
       have ht:n=m:=Classical.byContradiction fun e=>E (.inr e)
       subst ht;have h7:(K==0)=false:=by simpa using hz
       have hh:Hid (O=actR numP K r):=by
        show _=_;rw[J.out,if_neg];rintro(e|e)
        ·exact hz e
        ·exact e R.out
       clear J E
       cases B1<;>cases B2<;>cases B3
       all_goals
        have N:=R.out;unfold Zfd at N;rw[D.out,C.out,B.out]at N
        first|(exfalso;simp at N;done)|(exfalso;simp at N;omega)|clear N
       ·exfalso;have h1:=D.out;have h2:=C.out;have h3:=B.out;unfold hN at h1;unfold hP inB at h2;unfold hT at h3;simp at h1 h2 h3;omega
       ·obtain rfl:n=1:=by have h:=R.out;unfold Zfd at h;rw[D.out,C.out,B.out]at h;simpa using h
        obtain⟨ra,rfl⟩:∃ra,r=[ra]:=by
         have hf:r.length=1:=by have:=hn.out;omega
         match r,hf with
         |[ra],_=>exact⟨ra,rfl⟩
        obtain⟨Sra,g⟩:∃S,Hid (mkS ra=S):=⟨_,rfl⟩;have T:Sra.size≤33554432:=by rw[←g.out,Zcn];exact ho.out ra (by simp)
        have Q:Hid (Sra.data.toList=ra):=by show _=_;rw[←g.out];rfl
        have o:=Blk.new wd 98 #[.bool false,.bool false,.bool false];have z:=Zac wd (.cells #[.bool false,.bool false,.bool false] 98);replace f:=f.kept z;replace c:=c.kept z;replace d:=d.kept z;replace a:=a.trans (z.mono a.size);have cra:(wd.alloc (.cells #[.bool false,.bool false,.bool false] 98)).cell? ⟨w.heap.size+1,1,none⟩=some (.string Sra):=by rw[c.cell 1,←g.out];rfl
        go_wp2_with fail;refine(number_any Sra T _ (hE.kept a)).mono ?_
        rintro e x1 ⟨vp,bp,rfl,hy,g0,t⟩;replace f:=f.kept t;replace c:=c.kept t;replace d:=d.kept t;replace o:=o.kept t;replace a:=a.trans (t.mono a.size);clear cra;have cra:x1.cell? ⟨w.heap.size+1,1,none⟩=some (.string Sra):=by rw[c.cell 1,←g.out];rfl
        go_wp2_with (refine Za1 (n:=1) (v:=.int .i64 vp) rfl rfl rfl rfl (by kernel_rfl) rfl d (Nat.le_of_ble_eq_true rfl) rfl ?_);intro x2 u p
        replace u:Blk x2 (w.heap.size+2) 48 #[.int .i64 K,.int .i64 0,.int .i64 vp,.string ByteArray.empty]:=u;replace f:=f.grown p (by first|(simp;done)|(simp;omega));replace c:=c.grown p (by first|(simp;done)|(simp;omega));replace o:=o.grown p (by first|(simp;done)|(simp;omega));replace d:=u;replace a:=Zab a (by have:=a.size;omega) p (by intro j e;injection e;omega);clear p u;clear cra;have cra:x2.cell? ⟨w.heap.size+1,1,none⟩=some (.string Sra):=by rw[c.cell 1,←g.out];rfl
        go_wp2_with (refine Za1 (n:=1) (v:=.bool bp) rfl rfl rfl rfl (by kernel_rfl) rfl o (Nat.le_of_ble_eq_true rfl) rfl ?_);intro x3 u p
        replace u:Blk x3 (wd.heap.size) 98 #[.bool false,.bool bp,.bool false]:=u;replace f:=f.grown p (by first|(simp;done)|(simp;omega));replace c:=c.grown p (by first|(simp;done)|(simp;omega));replace d:=d.grown p (by first|(simp;done)|(simp;omega));replace o:=u;replace a:=Zab a (by have:=a.size;omega) p (by intro j e;injection e;omega);clear p u;clear cra;have cra:x3.cell? ⟨w.heap.size+1,1,none⟩=some (.string Sra):=by rw[c.cell 1,←g.out];rfl
        clear cra;go_wp2_with fail;refine Zt (fun w'=>Below (x3).heap.size (x3) w') (fun w'=>(x3).grownBy w' (some w.heap.size)) [8] (.q 0 (.q 1 (.q 2 (.q 3 (.q 4 (.q 5 (.q 6 (.l 7 (.qc 8 .nil))))))))) ?_ ?_
        ·exact⟨Zad _,Zbf _ _⟩
        intro X A G;have L:=G;have h0:=f.kept A
        repeat((first|refine pq (h:=⟨_,fun w' L=>by(have he:=Zcb false bp false false true false w';have M:=d.grown L (by simp);have H:=o.grown L (by first|(simp;done)|(simp;omega));have a0:=M.cell 0;have a1:=M.cell 1;have a2:=M.cell 2;have a3:=M.cell 3;have k0:=H.cell 0;have k1:=H.cell 1;have k2:=H.cell 2;simp at a0 a1 a2 a3 k0 k1 k2;go_simp;exact rfl),?_⟩)|refine Zq ?_);simp only[sx])
        refine Zd fun K Y=>?_
        try simp only[sy]
        refine Zh 4 h0 ?_;intro X2 Z F;refine Y.out _ _ (Zae G F) fun L=>?_
        clear Y K
        try simp only[sx]
        repeat(refine Zq ?_;simp only[sx])
        refine Zai ?_;go_wp2;refine bodyPost_ret (Zag rfl rfl (by kernel_rfl) (by kernel_rfl) Z rfl) rfl ?_;refine⟨⟨_,_,_,_,_,rfl,?_⟩,Zab (a.trans (A.mono a.size)) (by have:=a.size;have:=A.size;omega) F (by intro j e;injection e;omega)⟩;have e2:numP ra=if bp then some vp else none:=by rw[←Q.out];cases bp;exact g0.out rfl;exact hy.out rfl
        rw[hh.out];simp only[actR,Zry,Zrr,Zps,D.out,C.out,B.out,if_true,if_false,Bool.false_eq_true,List.getD_cons_zero,List.getD_cons_succ,e2]
        cases bp<;>simp[Zdp,Zot]
       ·exfalso;have h1:=D.out;have h2:=C.out;have h3:=B.out;unfold hN at h1;unfold hP inB at h2;unfold hT at h3;simp at h1 h2 h3;omega
       ·obtain rfl:n=1:=by have h:=R.out;unfold Zfd at h;rw[D.out,C.out,B.out]at h;simpa using h
        obtain⟨ra,rfl⟩:∃ra,r=[ra]:=by
         have hf:r.length=1:=by have:=hn.out;omega
         match r,hf with
         |[ra],_=>exact⟨ra,rfl⟩
        obtain⟨Sra,g⟩:∃S,Hid (mkS ra=S):=⟨_,rfl⟩;have T:Sra.size≤33554432:=by rw[←g.out,Zcn];exact ho.out ra (by simp)
        have Q:Hid (Sra.data.toList=ra):=by show _=_;rw[←g.out];rfl
        have o:=Blk.new wd 98 #[.bool false,.bool false,.bool false];have z:=Zac wd (.cells #[.bool false,.bool false,.bool false] 98);replace f:=f.kept z;replace c:=c.kept z;replace d:=d.kept z;replace a:=a.trans (z.mono a.size);have cra:(wd.alloc (.cells #[.bool false,.bool false,.bool false] 98)).cell? ⟨w.heap.size+1,1,none⟩=some (.string Sra):=by rw[c.cell 1,←g.out];rfl
        go_wp2_with fail;refine(number_any Sra T _ (hE.kept a)).mono ?_
        rintro e x1 ⟨vn,bn,rfl,h4,h6,t⟩;replace f:=f.kept t;replace c:=c.kept t;replace d:=d.kept t;replace o:=o.kept t;replace a:=a.trans (t.mono a.size);clear cra;have cra:x1.cell? ⟨w.heap.size+1,1,none⟩=some (.string Sra):=by rw[c.cell 1,←g.out];rfl
        go_wp2_with (refine Za1 (n:=1) (v:=.int .i64 vn) rfl rfl rfl rfl (by kernel_rfl) rfl d (Nat.le_of_ble_eq_true rfl) rfl ?_);intro x2 u p
        replace u:Blk x2 (w.heap.size+2) 48 #[.int .i64 K,.int .i64 vn,.int .i64 0,.string ByteArray.empty]:=u;replace f:=f.grown p (by first|(simp;done)|(simp;omega));replace c:=c.grown p (by first|(simp;done)|(simp;omega));replace o:=o.grown p (by first|(simp;done)|(simp;omega));replace d:=u;replace a:=Zab a (by have:=a.size;omega) p (by intro j e;injection e;omega);clear p u;clear cra;have cra:x2.cell? ⟨w.heap.size+1,1,none⟩=some (.string Sra):=by rw[c.cell 1,←g.out];rfl
        go_wp2_with (refine Za1 (n:=1) (v:=.bool bn) rfl rfl rfl rfl (by kernel_rfl) rfl o (Nat.le_of_ble_eq_true rfl) rfl ?_);intro x3 u p
        replace u:Blk x3 (wd.heap.size) 98 #[.bool bn,.bool false,.bool false]:=u;replace f:=f.grown p (by first|(simp;done)|(simp;omega));replace c:=c.grown p (by first|(simp;done)|(simp;omega));replace d:=d.grown p (by first|(simp;done)|(simp;omega));replace o:=u;replace a:=Zab a (by have:=a.size;omega) p (by intro j e;injection e;omega);clear p u;clear cra;have cra:x3.cell? ⟨w.heap.size+1,1,none⟩=some (.string Sra):=by rw[c.cell 1,←g.out];rfl
        clear cra;go_wp2_with fail;refine Zt (fun w'=>Below (x3).heap.size (x3) w') (fun w'=>(x3).grownBy w' (some w.heap.size)) [8] (.q 0 (.q 1 (.q 2 (.q 3 (.q 4 (.q 5 (.q 6 (.l 7 (.qc 8 .nil))))))))) ?_ ?_
        ·exact⟨Zad _,Zbf _ _⟩
        intro X A G;have L:=G;have h0:=f.kept A
        repeat((first|refine pq (h:=⟨_,fun w' L=>by(have he:=Zcb bn false false true false false w';have M:=d.grown L (by simp);have H:=o.grown L (by first|(simp;done)|(simp;omega));have a0:=M.cell 0;have a1:=M.cell 1;have a2:=M.cell 2;have a3:=M.cell 3;have k0:=H.cell 0;have k1:=H.cell 1;have k2:=H.cell 2;simp at a0 a1 a2 a3 k0 k1 k2;go_simp;exact rfl),?_⟩)|refine Zq ?_);simp only[sx])
        refine Zd fun K Y=>?_
        try simp only[sy]
        refine Zh 4 h0 ?_;intro X2 Z F;refine Y.out _ _ (Zae G F) fun L=>?_
        clear Y K
        try simp only[sx]
        repeat(refine Zq ?_;simp only[sx])
        refine Zai ?_;go_wp2;refine bodyPost_ret (Zag rfl rfl (by kernel_rfl) (by kernel_rfl) Z rfl) rfl ?_;refine⟨⟨_,_,_,_,_,rfl,?_⟩,Zab (a.trans (A.mono a.size)) (by have:=a.size;have:=A.size;omega) F (by intro j e;injection e;omega)⟩;have e1:numP ra=if bn then some vn else none:=by rw[←Q.out];cases bn;exact h6.out rfl;exact h4.out rfl
        rw[hh.out];simp only[actR,Zry,Zrr,Zps,D.out,C.out,B.out,if_true,if_false,Bool.false_eq_true,List.getD_cons_zero,List.getD_cons_succ,e1]
        cases bn<;>simp[Zdp,Zot]
       ·obtain rfl:n=2:=by have h:=R.out;unfold Zfd at h;rw[D.out,C.out,B.out]at h;simpa using h
        obtain⟨ra,rb,rfl⟩:∃ra rb,r=[ra,rb]:=by
         have hf:r.length=2:=by have:=hn.out;omega
         match r,hf with
         |[ra,rb],_=>exact⟨ra,rb,rfl⟩
        obtain⟨Sra,g⟩:∃S,Hid (mkS ra=S):=⟨_,rfl⟩;have T:Sra.size≤33554432:=by rw[←g.out,Zcn];exact ho.out ra (by simp)
        have Q:Hid (Sra.data.toList=ra):=by show _=_;rw[←g.out];rfl
        obtain⟨Srb,y⟩:∃S,Hid (mkS rb=S):=⟨_,rfl⟩;have hr:Srb.size≤33554432:=by rw[←y.out,Zcn];exact ho.out rb (by simp)
        have g1:Hid (Srb.data.toList=rb):=by show _=_;rw[←y.out];rfl
        have o:=Blk.new wd 98 #[.bool false,.bool false,.bool false];have z:=Zac wd (.cells #[.bool false,.bool false,.bool false] 98);replace f:=f.kept z;replace c:=c.kept z;replace d:=d.kept z;replace a:=a.trans (z.mono a.size);have cra:(wd.alloc (.cells #[.bool false,.bool false,.bool false] 98)).cell? ⟨w.heap.size+1,1,none⟩=some (.string Sra):=by rw[c.cell 1,←g.out];rfl
        have crb:(wd.alloc (.cells #[.bool false,.bool false,.bool false] 98)).cell? ⟨w.heap.size+1,2,none⟩=some (.string Srb):=by rw[c.cell 2,←y.out];rfl
        go_wp2_with fail;refine(number_any Sra T _ (hE.kept a)).mono ?_
        rintro e x1 ⟨vn,bn,rfl,h4,h6,t⟩;replace f:=f.kept t;replace c:=c.kept t;replace d:=d.kept t;replace o:=o.kept t;replace a:=a.trans (t.mono a.size);clear cra crb;have cra:x1.cell? ⟨w.heap.size+1,1,none⟩=some (.string Sra):=by rw[c.cell 1,←g.out];rfl
        have crb:x1.cell? ⟨w.heap.size+1,2,none⟩=some (.string Srb):=by rw[c.cell 2,←y.out];rfl
        go_wp2_with (refine Za1 (n:=1) (v:=.int .i64 vn) rfl rfl rfl rfl (by kernel_rfl) rfl d (Nat.le_of_ble_eq_true rfl) rfl ?_);intro x2 u p
        replace u:Blk x2 (w.heap.size+2) 48 #[.int .i64 K,.int .i64 vn,.int .i64 0,.string ByteArray.empty]:=u;replace f:=f.grown p (by first|(simp;done)|(simp;omega));replace c:=c.grown p (by first|(simp;done)|(simp;omega));replace o:=o.grown p (by first|(simp;done)|(simp;omega));replace d:=u;replace a:=Zab a (by have:=a.size;omega) p (by intro j e;injection e;omega);clear p u;clear cra crb;have cra:x2.cell? ⟨w.heap.size+1,1,none⟩=some (.string Sra):=by rw[c.cell 1,←g.out];rfl
        have crb:x2.cell? ⟨w.heap.size+1,2,none⟩=some (.string Srb):=by rw[c.cell 2,←y.out];rfl
        go_wp2_with (refine Za1 (n:=1) (v:=.bool bn) rfl rfl rfl rfl (by kernel_rfl) rfl o (Nat.le_of_ble_eq_true rfl) rfl ?_);intro x3 u p
        replace u:Blk x3 (wd.heap.size) 98 #[.bool bn,.bool false,.bool false]:=u;replace f:=f.grown p (by first|(simp;done)|(simp;omega));replace c:=c.grown p (by first|(simp;done)|(simp;omega));replace d:=d.grown p (by first|(simp;done)|(simp;omega));replace o:=u;replace a:=Zab a (by have:=a.size;omega) p (by intro j e;injection e;omega);clear p u;clear cra crb;have cra:x3.cell? ⟨w.heap.size+1,1,none⟩=some (.string Sra):=by rw[c.cell 1,←g.out];rfl
        have crb:x3.cell? ⟨w.heap.size+1,2,none⟩=some (.string Srb):=by rw[c.cell 2,←y.out];rfl
        go_wp2_with fail;refine(Zuf Srb hr _).mono ?_
        rintro e x4 ⟨vt,bt,rfl,gp,gy,t⟩;replace f:=f.kept t;replace c:=c.kept t;replace d:=d.kept t;replace o:=o.kept t;replace a:=a.trans (t.mono a.size);clear cra crb;have cra:x4.cell? ⟨w.heap.size+1,1,none⟩=some (.string Sra):=by rw[c.cell 1,←g.out];rfl
        have crb:x4.cell? ⟨w.heap.size+1,2,none⟩=some (.string Srb):=by rw[c.cell 2,←y.out];rfl
        go_wp2_with (refine Za1 (n:=1) (v:=.string vt) rfl rfl rfl rfl (by kernel_rfl) rfl d (Nat.le_of_ble_eq_true rfl) rfl ?_);intro x5 u p
        replace u:Blk x5 (w.heap.size+2) 48 #[.int .i64 K,.int .i64 vn,.int .i64 0,.string vt]:=u;replace f:=f.grown p (by first|(simp;done)|(simp;omega));replace c:=c.grown p (by first|(simp;done)|(simp;omega));replace o:=o.grown p (by first|(simp;done)|(simp;omega));replace d:=u;replace a:=Zab a (by have:=a.size;omega) p (by intro j e;injection e;omega);clear p u;clear cra crb;have cra:x5.cell? ⟨w.heap.size+1,1,none⟩=some (.string Sra):=by rw[c.cell 1,←g.out];rfl
        have crb:x5.cell? ⟨w.heap.size+1,2,none⟩=some (.string Srb):=by rw[c.cell 2,←y.out];rfl
        go_wp2_with (refine Za1 (n:=1) (v:=.bool bt) rfl rfl rfl rfl (by kernel_rfl) rfl o (Nat.le_of_ble_eq_true rfl) rfl ?_);intro x6 u p
        replace u:Blk x6 (wd.heap.size) 98 #[.bool bn,.bool false,.bool bt]:=u;replace f:=f.grown p (by first|(simp;done)|(simp;omega));replace c:=c.grown p (by first|(simp;done)|(simp;omega));replace d:=d.grown p (by first|(simp;done)|(simp;omega));replace o:=u;replace a:=Zab a (by have:=a.size;omega) p (by intro j e;injection e;omega);clear p u;clear cra crb;have cra:x6.cell? ⟨w.heap.size+1,1,none⟩=some (.string Sra):=by rw[c.cell 1,←g.out];rfl
        have crb:x6.cell? ⟨w.heap.size+1,2,none⟩=some (.string Srb):=by rw[c.cell 2,←y.out];rfl
        clear cra crb;go_wp2_with fail;refine Zt (fun w'=>Below (x6).heap.size (x6) w') (fun w'=>(x6).grownBy w' (some w.heap.size)) [8] (.q 0 (.q 1 (.q 2 (.q 3 (.q 4 (.q 5 (.q 6 (.l 7 (.qc 8 .nil))))))))) ?_ ?_
        ·exact⟨Zad _,Zbf _ _⟩
        intro X A G;have L:=G;have h0:=f.kept A
        repeat((first|refine pq (h:=⟨_,fun w' L=>by(have he:=Zcb bn false bt true false true w';have M:=d.grown L (by simp);have H:=o.grown L (by first|(simp;done)|(simp;omega));have a0:=M.cell 0;have a1:=M.cell 1;have a2:=M.cell 2;have a3:=M.cell 3;have k0:=H.cell 0;have k1:=H.cell 1;have k2:=H.cell 2;simp at a0 a1 a2 a3 k0 k1 k2;go_simp;exact rfl),?_⟩)|refine Zq ?_);simp only[sx])
        refine Zd fun K Y=>?_
        try simp only[sy]
        refine Zh 4 h0 ?_;intro X2 Z F;refine Y.out _ _ (Zae G F) fun L=>?_
        clear Y K
        try simp only[sx]
        repeat(refine Zq ?_;simp only[sx])
        refine Zai ?_;go_wp2;refine bodyPost_ret (Zag rfl rfl (by kernel_rfl) (by kernel_rfl) Z rfl) rfl ?_;refine⟨⟨_,_,_,_,_,rfl,?_⟩,Zab (a.trans (A.mono a.size)) (by have:=a.size;have:=A.size;omega) F (by intro j e;injection e;omega)⟩;have e1:numP ra=if bn then some vn else none:=by rw[←Q.out];cases bn;exact h6.out rfl;exact h4.out rfl
        have e3:Zbx rb=if bt then some vt.data.toList else none:=by rw[←g1.out];cases bt;exact gy.out rfl;exact gp.out rfl
        rw[hh.out];simp only[actR,Zry,Zrr,Zps,D.out,C.out,B.out,if_true,if_false,Bool.false_eq_true,List.getD_cons_zero,List.getD_cons_succ,e1,e3]
        cases bn<;>cases bt<;>simp[Zdp,Zot]
       ·obtain rfl:n=2:=by have h:=R.out;unfold Zfd at h;rw[D.out,C.out,B.out]at h;simpa using h
        obtain⟨ra,rb,rfl⟩:∃ra rb,r=[ra,rb]:=by
         have hf:r.length=2:=by have:=hn.out;omega
         match r,hf with
         |[ra,rb],_=>exact⟨ra,rb,rfl⟩
        obtain⟨Sra,g⟩:∃S,Hid (mkS ra=S):=⟨_,rfl⟩;have T:Sra.size≤33554432:=by rw[←g.out,Zcn];exact ho.out ra (by simp)
        have Q:Hid (Sra.data.toList=ra):=by show _=_;rw[←g.out];rfl
        obtain⟨Srb,y⟩:∃S,Hid (mkS rb=S):=⟨_,rfl⟩;have hr:Srb.size≤33554432:=by rw[←y.out,Zcn];exact ho.out rb (by simp)
        have g1:Hid (Srb.data.toList=rb):=by show _=_;rw[←y.out];rfl
        have o:=Blk.new wd 98 #[.bool false,.bool false,.bool false];have z:=Zac wd (.cells #[.bool false,.bool false,.bool false] 98);replace f:=f.kept z;replace c:=c.kept z;replace d:=d.kept z;replace a:=a.trans (z.mono a.size);have cra:(wd.alloc (.cells #[.bool false,.bool false,.bool false] 98)).cell? ⟨w.heap.size+1,1,none⟩=some (.string Sra):=by rw[c.cell 1,←g.out];rfl
        have crb:(wd.alloc (.cells #[.bool false,.bool false,.bool false] 98)).cell? ⟨w.heap.size+1,2,none⟩=some (.string Srb):=by rw[c.cell 2,←y.out];rfl
        go_wp2_with fail;refine(number_any Sra T _ (hE.kept a)).mono ?_
        rintro e x1 ⟨vn,bn,rfl,h4,h6,t⟩;replace f:=f.kept t;replace c:=c.kept t;replace d:=d.kept t;replace o:=o.kept t;replace a:=a.trans (t.mono a.size);clear cra crb;have cra:x1.cell? ⟨w.heap.size+1,1,none⟩=some (.string Sra):=by rw[c.cell 1,←g.out];rfl
        have crb:x1.cell? ⟨w.heap.size+1,2,none⟩=some (.string Srb):=by rw[c.cell 2,←y.out];rfl
        go_wp2_with (refine Za1 (n:=1) (v:=.int .i64 vn) rfl rfl rfl rfl (by kernel_rfl) rfl d (Nat.le_of_ble_eq_true rfl) rfl ?_);intro x2 u p
        replace u:Blk x2 (w.heap.size+2) 48 #[.int .i64 K,.int .i64 vn,.int .i64 0,.string ByteArray.empty]:=u;replace f:=f.grown p (by first|(simp;done)|(simp;omega));replace c:=c.grown p (by first|(simp;done)|(simp;omega));replace o:=o.grown p (by first|(simp;done)|(simp;omega));replace d:=u;replace a:=Zab a (by have:=a.size;omega) p (by intro j e;injection e;omega);clear p u;clear cra crb;have cra:x2.cell? ⟨w.heap.size+1,1,none⟩=some (.string Sra):=by rw[c.cell 1,←g.out];rfl
        have crb:x2.cell? ⟨w.heap.size+1,2,none⟩=some (.string Srb):=by rw[c.cell 2,←y.out];rfl
        go_wp2_with (refine Za1 (n:=1) (v:=.bool bn) rfl rfl rfl rfl (by kernel_rfl) rfl o (Nat.le_of_ble_eq_true rfl) rfl ?_);intro x3 u p
        replace u:Blk x3 (wd.heap.size) 98 #[.bool bn,.bool false,.bool false]:=u;replace f:=f.grown p (by first|(simp;done)|(simp;omega));replace c:=c.grown p (by first|(simp;done)|(simp;omega));replace d:=d.grown p (by first|(simp;done)|(simp;omega));replace o:=u;replace a:=Zab a (by have:=a.size;omega) p (by intro j e;injection e;omega);clear p u;clear cra crb;have cra:x3.cell? ⟨w.heap.size+1,1,none⟩=some (.string Sra):=by rw[c.cell 1,←g.out];rfl
        have crb:x3.cell? ⟨w.heap.size+1,2,none⟩=some (.string Srb):=by rw[c.cell 2,←y.out];rfl
        go_wp2_with fail;refine(number_any Srb hr _ (hE.kept a)).mono ?_
        rintro e x4 ⟨vp,bp,rfl,hy,g0,t⟩;replace f:=f.kept t;replace c:=c.kept t;replace d:=d.kept t;replace o:=o.kept t;replace a:=a.trans (t.mono a.size);clear cra crb;have cra:x4.cell? ⟨w.heap.size+1,1,none⟩=some (.string Sra):=by rw[c.cell 1,←g.out];rfl
        have crb:x4.cell? ⟨w.heap.size+1,2,none⟩=some (.string Srb):=by rw[c.cell 2,←y.out];rfl
        go_wp2_with (refine Za1 (n:=1) (v:=.int .i64 vp) rfl rfl rfl rfl (by kernel_rfl) rfl d (Nat.le_of_ble_eq_true rfl) rfl ?_);intro x5 u p
        replace u:Blk x5 (w.heap.size+2) 48 #[.int .i64 K,.int .i64 vn,.int .i64 vp,.string ByteArray.empty]:=u;replace f:=f.grown p (by first|(simp;done)|(simp;omega));replace c:=c.grown p (by first|(simp;done)|(simp;omega));replace o:=o.grown p (by first|(simp;done)|(simp;omega));replace d:=u;replace a:=Zab a (by have:=a.size;omega) p (by intro j e;injection e;omega);clear p u;clear cra crb;have cra:x5.cell? ⟨w.heap.size+1,1,none⟩=some (.string Sra):=by rw[c.cell 1,←g.out];rfl
        have crb:x5.cell? ⟨w.heap.size+1,2,none⟩=some (.string Srb):=by rw[c.cell 2,←y.out];rfl
        go_wp2_with (refine Za1 (n:=1) (v:=.bool bp) rfl rfl rfl rfl (by kernel_rfl) rfl o (Nat.le_of_ble_eq_true rfl) rfl ?_);intro x6 u p
        replace u:Blk x6 (wd.heap.size) 98 #[.bool bn,.bool bp,.bool false]:=u;replace f:=f.grown p (by first|(simp;done)|(simp;omega));replace c:=c.grown p (by first|(simp;done)|(simp;omega));replace d:=d.grown p (by first|(simp;done)|(simp;omega));replace o:=u;replace a:=Zab a (by have:=a.size;omega) p (by intro j e;injection e;omega);clear p u;clear cra crb;have cra:x6.cell? ⟨w.heap.size+1,1,none⟩=some (.string Sra):=by rw[c.cell 1,←g.out];rfl
        have crb:x6.cell? ⟨w.heap.size+1,2,none⟩=some (.string Srb):=by rw[c.cell 2,←y.out];rfl
        clear cra crb;go_wp2_with fail;refine Zt (fun w'=>Below (x6).heap.size (x6) w') (fun w'=>(x6).grownBy w' (some w.heap.size)) [8] (.q 0 (.q 1 (.q 2 (.q 3 (.q 4 (.q 5 (.q 6 (.l 7 (.qc 8 .nil))))))))) ?_ ?_
        ·exact⟨Zad _,Zbf _ _⟩
        intro X A G;have L:=G;have h0:=f.kept A
        repeat((first|refine pq (h:=⟨_,fun w' L=>by(have he:=Zcb bn bp false true true false w';have M:=d.grown L (by simp);have H:=o.grown L (by first|(simp;done)|(simp;omega));have a0:=M.cell 0;have a1:=M.cell 1;have a2:=M.cell 2;have a3:=M.cell 3;have k0:=H.cell 0;have k1:=H.cell 1;have k2:=H.cell 2;simp at a0 a1 a2 a3 k0 k1 k2;go_simp;exact rfl),?_⟩)|refine Zq ?_);simp only[sx])
        refine Zd fun K Y=>?_
        try simp only[sy]
        refine Zh 4 h0 ?_;intro X2 Z F;refine Y.out _ _ (Zae G F) fun L=>?_
        clear Y K
        try simp only[sx]
        repeat(refine Zq ?_;simp only[sx])
        refine Zai ?_;go_wp2;refine bodyPost_ret (Zag rfl rfl (by kernel_rfl) (by kernel_rfl) Z rfl) rfl ?_;refine⟨⟨_,_,_,_,_,rfl,?_⟩,Zab (a.trans (A.mono a.size)) (by have:=a.size;have:=A.size;omega) F (by intro j e;injection e;omega)⟩;have e1:numP ra=if bn then some vn else none:=by rw[←Q.out];cases bn;exact h6.out rfl;exact h4.out rfl
        have e2:numP rb=if bp then some vp else none:=by rw[←g1.out];cases bp;exact g0.out rfl;exact hy.out rfl
        rw[hh.out];simp only[actR,Zry,Zrr,Zps,D.out,C.out,B.out,if_true,if_false,Bool.false_eq_true,List.getD_cons_zero,List.getD_cons_succ,e1,e2]
        cases bn<;>cases bp<;>simp[Zdp,Zot]
       ·exfalso;have h1:=D.out;have h2:=C.out;have h3:=B.out;unfold hN at h1;unfold hP inB at h2;unfold hT at h3;simp at h1 h2 h3;omega
end Ln
end Go.Proofs.YtbcpbnfojfiekaaGreatDoor
