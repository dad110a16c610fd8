/- A part of what the last text stands on. -/
import Derived.WalkSpells
import Derived.Test.YtinibgklgehdpaaGreatDoorK03
import Derived.Test.YtinibgklgehdpaaGreatDoorK04
import Derived.Test.YtinibgklgehdpaaGreatDoorK06
namespace Go.Proofs.YtinibgklgehdpaaGreatDoor
open Go.ChangeShapes Go.WideShapes Go.ChangeAt Go.RowKit Qa Qb Qc
set_option linter.all false
set_option maxHeartbeats 20000000
set_option maxRecDepth 100000
variable{w W:World}{A:Option Addr}{h:View}{t:TypeId}{k g bs b c:Nat}{α:Type}{xs:List α}{enc:α→Value}
theorem Zqq(h:Tabs w.cell?):∀j v,(Zc3.map encU)[j]?=some v→w.cell? ((⟨0,0,none⟩:Addr).add j)=some v:=fun j v hj=>by
 have hjl:j<Zc3.length:=by have:=(List.getElem?_eq_some_iff.1 hj).1;simpa using this
 rw[Zbs,Nat.zero_add,h.first j hjl,←Zgm hjl]
 simpa[hjl]using hj
theorem Zm8{x t:Nat}:IntKind.u8.wrap ((x:Int)/2^t)=((UInt8.ofNat (x/2^t%256)).toNat:Int):=by
 rw[show(x:Int)/2^t=((x/2^t:Nat):Int) by push_cast;rfl,IntKind.wrap_u8,UInt8.toNat_ofNat'];omega
theorem Zfr(hb:Below w.heap.size w W)(hg:w.heap.size≤g):VLe w.cell? (View.but W.cell? (some g)):=fun a u hu=>by
 have hlt:=World.block_lt_of_cell? w a hu
 unfold View.but
 rw[if_neg (by intro e;injection e with e;omega)]
 exact Zaa hb _ _ hu
theorem Zo8(s0 s1 s2 s3 s4 s5 s6 s7:Nat)(j:Nat)(hj:j<8)(w:World):(Instr.index 163 (.agg ([s0,s1,s2,s3,s4,s5,s6,s7].map encU).toArray) (.int .i64 j)).run Tryz.prog w=.ok (.int .u32 (at0 [s0,s1,s2,s3,s4,s5,s6,s7] j:Nat)) w :=
 match j,hj with
 |0,_=>by kernel_rfl
 |1,_=>by kernel_rfl
 |2,_=>by kernel_rfl
 |3,_=>by kernel_rfl
 |4,_=>by kernel_rfl
 |5,_=>by kernel_rfl
 |6,_=>by kernel_rfl
 |7,_=>by kernel_rfl
theorem Zqj(S:List Nat)(hS:S.length=8)(j:Nat)(hj:j<8)(w:World):(Instr.index 163 (.agg (S.map encU).toArray) (.int .i64 j)).run Tryz.prog w=.ok (.int .u32 (at0 S j:Nat)) w :=
 match S,hS with
 |[a,b,c,d,e,f,g,h],_=>Zo8 a b c d e f g h j hj w
theorem RVec.ofBlk(hb:Blk w g t (xs.map enc).toArray)(h1:xs.length≤140737488355328)(h2:xs.length*bs≤140737488355328):RVec enc bs w.cell? (.slice (some ⟨g,0,none⟩) xs.length xs.length) xs :=
 ⟨_,_,rfl,Nat.le_refl _,Zbw h1,h2,(fun h=>by cases h),fun _=>⟨g,0,rfl,fun i hi=>by rw[Nat.zero_add,hb.cell];simp[hi]⟩⟩
theorem bytes4(S:List Nat)(j:Nat):(List.range (4*(j+1))).map (Zd6 S)=(List.range (4*j)).map (Zd6 S)++[Zd6 S (4*j),Zd6 S (4*j+1),Zd6 S (4*j+2),Zd6 S (4*j+3)]:=by
 rw[show 4*(j+1)=4*j+1+1+1+1 by omega,List.range_succ,List.range_succ,List.range_succ,List.range_succ];simp
theorem Zn5(S:List Nat)(j r:Nat)(hr:r<4):Zd6 S (4*j+r)=UInt8.ofNat (at0 S j/2^(8*r)%256):=by
 unfold Zd6;rw[show(4*j+r)/4=j by omega,show(4*j+r)%4=r by omega]
theorem Zye(v:Value)(b:List UInt8)(w:World)(hv:Zao w.cell? v b)(hb:b.length≤4000)(hT:Tabs w.cell?) :
 Calls Tryz.prog 64 #[v] w fun e w'=>∃d,e=.returned d∧Below w.heap.size w w'∧OwnB w' w.heap.size d (sumB b):=by
 obtain⟨A,c,rfl,hlc,_⟩:=id hv;obtain⟨n,hn0⟩:∃n,Hid (b.length=n):=⟨_,rfl⟩;rw[hn0.out]at hv hlc hb⊢;have Hv:=Lib.hid hv;have HT:=Lib.hid hT;have hcs:=Zqq hT;clear hv hT;obtain⟨FA,hFA⟩:∃FA:Value,Hid (FA=.agg (Zc3.map encU).toArray):=⟨_,rfl⟩
 go_enter Tryz.func64,Tryz.ntmps64
 go_wp2_with (first
  |(refine Zbd (n:=8) (v:=FA) (Zc3.map encU) hFA.out rfl rfl rfl (by kernel_rfl) (by kernel_rfl) (by kernel_rfl) hcs ?_)
  |(refine Zck (n:=8) rfl rfl rfl hFA.out (by kernel_rfl) rfl (Blk.new _ _ _) rfl rfl ?_))
 clear hcs;intro w1 hB1 hg1;obtain⟨F,hF⟩:∃F,Hid (Zc3=F):=⟨_,rfl⟩;have hWF:F.length=8∧W32 (at0 F 0):=hF.out▸⟨rfl,by unfold W32;decide⟩;have hA1:Arr w1 w.heap.size 163 encU F:=by rw[←hF.out];exact hB1
 have hb1:Below w.heap.size w w1:=Zab (Zac _ _) (Zau _ (Nat.le_refl _)) hg1 (by intro k e;injection e;omega);obtain⟨gs,hgs⟩:∃gs,Hid (w.heap.size=gs):=⟨_,rfl⟩;rw[hgs.out]at hA1⊢;have hx1:=Zcr hA1 (i:=0) (by omega);have e1:bits .xor .u32 (at0 F 0:Nat) 16842784=(Zct (at0 F 0) 16842784:Nat):=Zfs hWF.2 (show W32 16842784 by unfold W32;decide);clear hB1 hg1
 go_wp2_with (refine Zea (xs:=F) (i:=0) (Zct (at0 F 0) 16842784) rfl rfl rfl rfl (by kernel_rfl) rfl rfl hA1 (by omega) ?_)
 intro w2 ho2 hg2;rw[show F.set 0 (Zct (at0 F 0) 16842784)=Zem b 0 from by rw[←hF.out];rfl]at ho2;have hb2:Below w.heap.size w w2:=Zab hb1 hb1.size hg2 (by intro k e;injection e;have:=hgs.out;omega);clear hg2 hx1 e1 hA1 hb1
 go_wp2_with fail
 go_loopw [0,4] (fun v i wr=>∃k:Nat,(k=0∨64*k<n)∧i=.int .i64 ((64*k:Nat):Int)∧(∃A' c',v=.slice A' (n-64*k) c'∧Hid (Zao w.cell? v (b.drop (64*k))))∧Arr wr gs 163 encU (Zem b k)∧Below w.heap.size w wr) (fun _ i _=>n-(intOf i).toNat)
 case atStart=>exact⟨0,.inl rfl,rfl,⟨A,c,rfl,Hv.out⟩,ho2,hb2⟩
 case round =>
  clear ho2 hb2;obtain⟨k,hk,rfl,⟨A',c',rfl,Hr⟩,hown,hbl⟩:=hrel;have hz:=hbl.size;have hWs:=Zpn b (k:=k) (by omega);obtain⟨S0,hS0⟩:∃S0,Hid (Zem b k=S0):=⟨_,rfl⟩;obtain⟨at',hat⟩:∃at':Nat,Hid (64*k=at'):=⟨_,rfl⟩;obtain⟨D,hD⟩:∃D,Hid (b.drop (64*k)=D):=⟨_,rfl⟩;obtain⟨m,hm⟩:∃m:Nat,Hid (n-64*k=m):=⟨_,rfl⟩;have hDl:D.length=m:=hD.out▸(by rw[List.length_drop,hn0.out,hm.out]);have hatm:at'+m=n:=by have:=hat.out;have:=hm.out;omega
  have hk':k=0∨at'<n:=by rw[←hat.out];exact hk
  rw[hD.out,hm.out]at Hr;rw[hS0.out]at hWs hown;rw[hm.out,hat.out];have hmc:m≤c':=by obtain⟨_,_,e,h,_⟩:=Hr.out;injection e with _ e2 e3;omega
  by_cases hlt:64<m
  ·have hpart:=Hr.out.take (k:=64) (by omega);have hpart2:=Hr.out.part (lo:=64) (m:=m-64) (by omega);obtain⟨P,hP⟩:∃P,Hid (D.take 64=P):=⟨_,rfl⟩;have hPl:P.length≤64:=hP.out▸(by rw[List.length_take];omega);obtain⟨at2,hat2⟩:∃at2,Hid (at'+64=at2):=⟨_,rfl⟩;have hn:Hid (Zft S0 P at2 false=Zem b (k+1)):=by show _=_;rw[Zig,hD.out,hat.out,hat2.out,hS0.out,hP.out]
   have hd2:(D.drop 64).take (m-64)=b.drop (64*(k+1)):=by
    rw[List.take_of_length_le (by simp;omega),←hD.out,List.drop_drop]
    congr 1
   rw[hd2]at hpart2;rw[hP.out]at hpart;have Hpart2:=Lib.hid hpart2;have e2:(at':Int)+64=at2:=by have:=hat2.out;omega
   clear hpart2 hd2
   go_wp2_with fail
   refine(Zq8 gs S0 _ P at2 false _ hown hWs (hpart.mono (Zfr hbl (by rw[hgs.out];exact Nat.le_refl _))) hPl (by unfold W32;have:=hat2.out;omega) (HT.out.mono (Zfr hbl (by rw[hgs.out];exact Nat.le_refl _)))).mono ?_;rintro e w3 ⟨rfl,ho3,hk3⟩;rw[hn.out]at ho3;have hbl3:Below w.heap.size w w3:=hbl.trans (hk3.below (by simp;have:=hgs.out;omega) hz)
   go_wp2_with fail
   go_roundw
   case rel=>exact⟨k+1,.inr (by have:=hat.out;omega),by have:=hat.out;have:=hat2.out;congr 1;omega,⟨_,_,by congr 1;have:=hat.out;omega,by exact Hpart2.out⟩,ho3,hbl3⟩
   case measure=>simp[intOf];omega
  ·have hka:k=ahead b.length:=by rw[hn0.out];unfold ahead;have:=hat.out;have:=hm.out;omega
   have hki:¬(64:Int)<m:=by omega
   have e3:(at':Int)+m=n:=by omega
   go_wp2_with fail
   refine(Zq8 gs S0 _ D n true _ hown hWs (Hr.out.mono (Zfr hbl (by rw[hgs.out];exact Nat.le_refl _))) (by omega) (by unfold W32;omega) (HT.out.mono (Zfr hbl (by rw[hgs.out];exact Nat.le_refl _)))).mono ?_;rintro e w3 ⟨rfl,ho3,hk3⟩;obtain⟨S,hS⟩:∃S,Hid (Zft S0 D n true=S):=⟨_,rfl⟩;have hWS:Ws 8 S:=hS.out▸Zl9 hWs _ (by unfold W32;omega) _;rw[hS.out]at ho3;have hbl3:Below w.heap.size w w3:=hbl.trans (hk3.below (by simp;have:=hgs.out;omega) hz);have hz3:=hbl3.size
   have hsum:Hid (sumB b=(List.range 32).map (Zd6 S)):=by
    show _=_;unfold sumB;rw[←hka,hn0.out,hD.out,hS0.out,hS.out]
   clear hown hbl hk hka hk' Hr hk3;obtain⟨SA,hSA⟩:∃SA:Value,Hid (SA=.agg (S.map encU).toArray):=⟨_,rfl⟩;have hcs:∀j v,(S.map encU)[j]?=some v→w3.cell? ((⟨gs,0,none⟩:Addr).add j)=some v:=fun j v hj=>by rw[Zbs,Nat.zero_add,Blk.cell ho3];simpa using hj
   have hxS:∀j,j<8→∀w,(Instr.index 163 SA (.int .i64 (j:Nat))).run Tryz.prog w=.ok (.int .u32 (at0 S j:Nat)) w:=by rw[hSA.out];exact Zqj S hWS.1
   have HxS:=Lib.hid hxS;clear hxS
   go_wp2_with (refine Zbd (n:=8) (v:=SA) (S.map encU) hSA.out rfl rfl rfl (by kernel_rfl) (by kernel_rfl) (by rw[List.length_map];exact hWS.1) hcs ?_)
   clear hcs
   go_loopw [5,31] (fun v i wr=>∃j:Nat,j≤8∧i=.int .i64 j∧OwnB wr w3.heap.size v ((List.range (4*j)).map (Zd6 S))∧Below w3.heap.size w3 wr) (fun _ i _=>8-(intOf i).toNat)
   case atStart=>exact⟨0,Nat.zero_le _,rfl,OwnVec.nil _ _ _ _,Below.refl _ _⟩
   case round =>
    obtain⟨j,hj,rfl,hown,hbl⟩:=hrel;have hzr:=hbl.size
    by_cases hltj:j<8
    ·have hji:(j:Int)<8:=by omega
     have hxj:=HxS.out j hltj;have Hn:=Lib.hid (bytes4 S j);have u0:=Zm8 (x:=at0 S j) (t:=8*0);have u1:=Zm8 (x:=at0 S j) (t:=8*1);have u2:=Zm8 (x:=at0 S j) (t:=8*2);have u3:=Zm8 (x:=at0 S j) (t:=8*3);rw[←Zn5 S j 0 (by decide)]at u0;rw[←Zn5 S j 1 (by decide)]at u1;rw[←Zn5 S j 2 (by decide)]at u2;rw[←Zn5 S j 3 (by decide)]at u3;rw[Nat.add_zero]at u0;generalize Zd6 S (4*j)=U0 at u0 Hn;generalize Zd6 S (4*j+1)=U1 at u1 Hn;generalize Zd6 S (4*j+2)=U2 at u2 Hn;generalize Zd6 S (4*j+3)=U3 at u3 Hn;have hlen:((List.range (4*j)).map (Zd6 S)).length≤32:=by rw[List.length_map,List.length_range];omega
     generalize hL:(List.range (4*j)).map (Zd6 S)=L at hown hlen Hn;simp at u0 u1 u2 u3
     go_wp2_with (at_builtin;go_loud (refine Za5 (n:=1024) (W:=w3) (ys:=[U0,U1,U2,U3]) Za9 Zb8 _ _ rfl rfl rfl (hown.alloc _) (hbl.alloc hzr _) (Zau _ hzr) rfl (RVec.ofBlk (xs:=[U0,U1,U2,U3]) (Blk.new _ _ _) (by simp) (by simp)) (by decide) (by simp;omega) (by simp;omega) ?_))
     intro v' w5 ho5 hb5 hg5;clear hg5;go_wp2;go_roundw
     case rel=>exact⟨j+1,by omega,by go_num,by rw[Hn.out];exact ho5,hb5⟩
     case measure=>simp[intOf];omega
    ·have hj8:j=8:=by omega
     rw[hj8,←hsum.out]at hown;go_wp2;go_ret;exact⟨_,rfl,hbl3.trans (hbl.mono hz3),hown.base hz3⟩
def Zdr(tag:UInt8)(l:List (List UInt8)):List UInt8:=tag::(l.map fun p=>[UInt8.ofNat (p.length/256),UInt8.ofNat (p.length%256)]++p).flatten
def tagE(tag:UInt8)(l:List (List UInt8)):Int:=if 4000<(Zdr tag l).length then 1 else 0
def tagR(tag:UInt8)(l:List (List UInt8)):List UInt8:=if 4000<(Zdr tag l).length then []else sumB (Zdr tag l)
theorem Zkb(tag:UInt8)(l:List (List UInt8))(hk:k<l.length):Zdr tag (l.take (k+1))=Zdr tag (l.take k)++[UInt8.ofNat (l[k].length/256),UInt8.ofNat (l[k].length%256)]++l[k]:=by
 unfold Zdr;rw[List.take_succ_eq_append_getElem hk,List.map_append,List.flatten_append,List.map_singleton,List.flatten_singleton];simp only[List.cons_append,List.nil_append,List.append_assoc]
theorem Zsi(tag:UInt8)(l:List (List UInt8))(hk:k<l.length):(Zdr tag (l.take (k+1))).length=(Zdr tag (l.take k)).length+2+l[k].length:=by
 rw[Zkb tag l hk];simp;omega
theorem Zt8(tag:UInt8)(l:List (List UInt8))(k:Nat):(Zdr tag (l.take k)).length≤(Zdr tag l).length:=by
 have:l=l.take k++l.drop k:=(List.take_append_drop k l).symm
 conv=>rhs;rw[this]
 unfold Zdr;rw[List.map_append,List.flatten_append];simp
theorem u8_hi{n:Nat}:IntKind.u8.wrap ((n:Int)/256)=((UInt8.ofNat (n/256)).toNat:Int):=by
 rw[IntKind.wrap_u8,UInt8.toNat_ofNat'];omega
theorem u8_lo{n:Nat}:IntKind.u8.wrap (n:Int)=((UInt8.ofNat (n%256)).toNat:Int):=by
 rw[IntKind.wrap_u8,UInt8.toNat_ofNat'];omega
theorem Zme(tag:UInt8)(v:Value)(l:List (List UInt8))(w:World)(hv:RDigs w.cell? v l)(hT:Tabs w.cell?) :
 Calls Tryz.prog 35 #[.int .u8 tag.toNat,v] w fun e w'=>∃d,e=.returned (.tuple #[d,.int .i64 (tagE tag l)])∧Below w.heap.size w w'∧Zao (View.from w'.cell? w.heap.size) d (tagR tag l):=by
 obtain⟨A,c,rfl,_⟩:=id hv;obtain⟨_,hcap,hlen,hel⟩:=hv.at;have Hel:=Lib.hid hel;have HT:=Lib.hid hT;clear hel hv hT;obtain⟨E,hE⟩:∃E,Hid (tagE tag l=E):=⟨_,rfl⟩;obtain⟨R,hR⟩:∃R,Hid (tagR tag l=R):=⟨_,rfl⟩;rw[hE.out,hR.out]
 go_enter Tryz.func35,Tryz.ntmps35
 go_wp2_with fail
 go_loopw [6,13] (fun v i wr=>∃k:Nat,k≤l.length∧i=.int .i64 k∧OwnB wr w.heap.size v (Zdr tag (l.take k))∧(Zdr tag (l.take k)).length≤4000∧Below w.heap.size w wr) (fun _ i _=>l.length-(intOf i).toNat)
 case atStart=>exact⟨0,Nat.zero_le _,rfl,OwnVec.lit (xs:=[tag]) (Blk.new _ _ _) (Nat.le_refl _) rfl (by decide),by simp[Zdr],Zac _ _⟩
 case round =>
  obtain⟨k,hk,rfl,hown,hle,hbl⟩:=hrel;have hz:=hbl.size;obtain⟨oA,oc,rfl⟩:=hown.form
  by_cases hlt:k<l.length
  ·obtain⟨b0,o0,d,rfl,q0,hd⟩:=Hel.out k hlt;have c0:=Zaa hbl _ _ q0;obtain⟨dA,dc,rfl,_⟩:=id hd;have Hd:=Lib.hid hd;have Hn:=Lib.hid (Zkb tag l hlt);have hln:=Zsi tag l hlt;have hle2:=Zt8 tag l (k+1);clear q0 hd;generalize hB:Zdr tag (l.take k)=B at hown hle Hn hln;generalize l[k]=p at Hd Hn hln c0;obtain⟨m,hm⟩:∃m,Hid (p.length=m):=⟨_,rfl⟩;obtain⟨n,hn⟩:∃n,Hid (B.length=n):=⟨_,rfl⟩;have hBl:=hn.out;rw[hm.out]at hln c0 Hn Hd;rw[hn.out]at hln hle hown
   by_cases hbad:4000<n+2+m
   ·have HE:Hid (E=1):=by show _=_;rw[←hE.out];exact if_pos (by omega)
    have HR:Hid (R=[]):=by show _=_;rw[←hR.out];exact if_pos (by omega)
    rw[hn.out];go_wp2
    all_goals
     go_ret2;exact⟨_,by rw[HE.out];rfl,hbl,by rw[HR.out];exact RVec.nil _ _ _⟩
   ·have u0:=u8_hi (n:=m);have u1:=u8_lo (n:=m);generalize UInt8.ofNat (m/256)=U0 at u0 Hn;generalize UInt8.ofNat (m%256)=U1 at u1 Hn;have hown:OwnB wr w.heap.size (.slice oA n oc) B:=hown;rw[hn.out]
    go_wp2_with (at_builtin;first
     |(refine Za5 (n:=140737488355328) (W:=w) (ys:=[U0,U1]) Za9 Zb8 _ _ rfl rfl rfl (hown.alloc _) (hbl.alloc hz _) (Zau _ hz) rfl (RVec.ofBlk (xs:=[U0,U1]) (Blk.new _ _ _) (by simp) (by simp)) (by decide) (by simp;omega) (by simp;omega) ?_))
    intro v1 w1 ho1 hb1 hg1;have hz1:=hb1.size
    go_wp2_with (at_builtin;go_loud (refine Za5 (n:=140737488355328) (W:=w) (ys:=p) Za9 Zb8 _ _ rfl rfl rfl ho1 hb1 hz1 rfl (Hd.out.mono (Zaa hb1)) (by decide) (by simp;have:=hm.out;omega) (by simp;have:=hm.out;omega) ?_))
    intro v2 w2 ho2 hb2 hg2;clear hg1 hg2 ho1;go_wp2;go_roundw
    case rel=>exact⟨k+1,by omega,by go_num,by rw[Hn.out];simpa using ho2,by rw[hln];omega,hb2⟩
    case measure=>simp[intOf];omega
  ·have hkl:k=l.length:=by omega
   rw[hkl,List.take_length]at hown hle;have HE:Hid (E=0):=by show _=_;rw[←hE.out];exact if_neg (by omega)
   have HR:Hid (R=sumB (Zdr tag l)):=by show _=_;rw[←hR.out];exact if_neg (by omega)
   obtain⟨B,hB⟩:∃B,Hid (Zdr tag l=B):=⟨_,rfl⟩;rw[hB.out]at hown hle HR;rw[hkl,List.take_length,hB.out]
   go_wp2_with fail
   refine(Zye _ B _ (hown.reads (by omega)) hle (HT.out.mono (Zaa hbl))).mono ?_;rintro e w1 ⟨d,rfl,hb1,ho⟩;go_wp2;go_ret2;exact⟨_,by rw[HE.out];rfl,hbl.trans (hb1.mono hz),by rw[HR.out];exact ho.from_ (bs:=1) (by rw[Zra];decide) hz⟩
theorem Za8{b':Nat}(hb:b'≤b):VLe (View.from h b) (View.from h b'):=fun a v e=>by
 unfold View.from at e⊢
 split at e
 ·cases e
 ·rw[if_neg (by omega)];exact e
def batD(a n:Int)(l:List ByteArray):List UInt8:=tagR 1 [Zfd a n l]
def hdrD(a r:Int)(b p:List (List UInt8)):List UInt8:=tagR 2 [Zcb a r b p]
def Zto(a n:Int)(l:List ByteArray):List UInt8:=if Zcq a n l=0 then batD a n l else []
def Zi4(a r:Int)(b p:List (List UInt8)):List UInt8:=if Zb3 a r b p=0 then hdrD a r b p else []
theorem Zum(w:World){d:Value}{x:List UInt8}(hd:Zao w.cell? d x):RDigs (w.alloc (.cells #[d] 54)).cell? (.slice (some ⟨w.heap.size,0,none⟩) 1 1) [x] :=
 Zx5 ((Blk.new w 54 #[d]).cell 0) (hd.mono (Zaa (Zac _ _)))
theorem Zqm{a r:Int}{b p:List (List UInt8)}(h:Zb3 a r b p=0):1≤r∧r≤1048576∧b.flatten.length+p.flatten.length≤224:=by
 obtain⟨h1,h2,h3,h4⟩:=headF_zero h;exact⟨h1,h2,by omega⟩
theorem Zjw(a n:Int)(vl:Value)(l:List ByteArray)(w:World)(hl:RTexts w.cell? vl l)(hs:∀s∈l,s.size≤140737488355328)(hT:Tabs w.cell?) :
 Calls Tryz.prog 21 #[.agg #[.int .i64 a,.int .i64 n,vl]] w fun e w'=>∃d,e=.returned (.tuple #[d,.int .i64 (Zcq a n l)])∧Below w.heap.size w w'∧Zao (View.from w'.cell? w.heap.size) d (Zto a n l):=by
 obtain⟨A,c,rfl,_⟩:=id hl;obtain⟨E,hE⟩:∃E,Hid (Zcq a n l=E):=⟨_,rfl⟩;obtain⟨R,hR⟩:∃R,Hid (Zto a n l=R):=⟨_,rfl⟩;rw[hE.out,hR.out]
 go_enter Tryz.func21,Tryz.ntmps21
 go_wp2_with fail
 refine Za7 _ _ _ (fun W=>Calls Tryz.prog _ _ W _) (fun W hk hszW hbW=>?_);refine(Zhc a n _ l _ (hl.mono (Zaa hbW)) hs).mono ?_;rintro e w1 ⟨rfl,hb1⟩;have hbl:=hbW.trans (hb1.mono hbW.size);have hk1:=hk.kept hb1;rw[hE.out]
 by_cases h0:E=0
 ·subst h0;obtain⟨q0,q1,q2⟩:=batchF_zero hE.out;obtain⟨Y,hY⟩:∃Y,Hid (Zfd a n l=Y):=⟨_,rfl⟩;have hR2:Hid (tagR 1 [Y]=R):=by show _=_;rw[←hR.out,←hY.out];unfold Zto batD;rw[if_pos hE.out]
  have g0:=hk1.cell 0;have g1:=hk1.cell 1;have g2:=hk1.cell 2;simp at g0 g1 g2
  go_wp2_with fail
  refine(Zjg w1 _ [] a n _ l _ (Below.refl _ _) (OwnVec.nil _ _ _ _) (by omega) (by omega) (hl.mono (Zaa hbl)) (by simp only[List.length_nil];omega)).mono ?_;rintro e w2 ⟨v1,rfl,hb2,_,ho1⟩;rw[List.nil_append,hY.out]at ho1;have hYl:Y.length≤140737488355328:=by rw[←hY.out,batchB_len];omega
  have hbl2:=hbl.trans (hb2.mono hbl.size);clear hk1 hk;obtain⟨A1,c1,rfl⟩:=ho1.form
  go_wp2_with fail
  have hb3:=Zac w2 (.cells #[.slice A1 Y.length c1] 54);have hbl3:=hbl2.trans (hb3.mono hbl2.size);refine(Zme 1 _ [Y] _ (Zum w2 (ho1.reads (bs:=1) (by omega))) (hT.mono (Zaa hbl3))).mono ?_;rintro e w3 ⟨d,rfl,hb4,hr⟩;have hbl4:=hbl3.trans (hb4.mono hbl3.size);rw[hR2.out]at hr;clear ho1 hT;go_wp2;go_ret2;exact⟨_,rfl,hbl4,hr.mono (Za8 hbl3.size)⟩
 ·have hR2:Hid (R=[]):=by show _=_;rw[←hR.out];unfold Zto;rw[if_neg (by rw[hE.out];exact h0)]
  clear hk hk1;go_wp2;go_ret2;exact⟨_,rfl,hbl,by rw[hR2.out];exact RVec.nil _ _ _⟩
theorem Zbx(a n:Int)(vb vp:Value)(b p:List (List UInt8))(w:World)(hb:RDigs w.cell? vb b)(hp:RDigs w.cell? vp p)(hT:Tabs w.cell?) :
 Calls Tryz.prog 55 #[.agg #[.int .i64 a,.int .i64 n,vb,vp]] w fun e w'=>∃d,e=.returned (.tuple #[d,.int .i64 (Zb3 a n b p)])∧Below w.heap.size w w'∧Zao (View.from w'.cell? w.heap.size) d (Zi4 a n b p):=by
 obtain⟨bA,bc,rfl,_⟩:=id hb;obtain⟨pA,pc,rfl,_⟩:=id hp;obtain⟨E,hE⟩:∃E,Hid (Zb3 a n b p=E):=⟨_,rfl⟩;obtain⟨R,hR⟩:∃R,Hid (Zi4 a n b p=R):=⟨_,rfl⟩;rw[hE.out,hR.out]
 go_enter Tryz.func55,Tryz.ntmps55
 go_wp2_with fail
 refine Za7 _ _ _ (fun W=>Calls Tryz.prog _ _ W _) (fun W hk hszW hbW=>?_);refine(Zdn a n _ _ b p _ (hb.mono RDig.mono (Zaa hbW)) (hp.mono RDig.mono (Zaa hbW))).mono ?_;rintro e w1 ⟨rfl,hb1⟩;have hbl:=hbW.trans (hb1.mono hbW.size);have hk1:=hk.kept hb1;rw[hE.out]
 by_cases h0:E=0
 ·subst h0;obtain⟨q0,q1,q2⟩:=Zqm hE.out;obtain⟨Y,hY⟩:∃Y,Hid (Zcb a n b p=Y):=⟨_,rfl⟩;have hR2:Hid (tagR 2 [Y]=R):=by show _=_;rw[←hR.out,←hY.out];unfold Zi4 hdrD;rw[if_pos hE.out]
  have g0:=hk1.cell 0;have g1:=hk1.cell 1;have g2:=hk1.cell 2;have g3:=hk1.cell 3;simp at g0 g1 g2 g3
  go_wp2_with fail
  refine(Zfw w1 _ [] a n _ _ b p _ (Below.refl _ _) (OwnVec.nil _ _ _ _) (by omega) (by omega) (hb.mono RDig.mono (Zaa hbl)) (hp.mono RDig.mono (Zaa hbl)) (by simp only[List.length_nil];omega)).mono ?_;rintro e w2 ⟨v1,rfl,hb2,_,ho1⟩;rw[List.nil_append,hY.out]at ho1;have hYl:Y.length≤140737488355328:=by rw[←hY.out,headerB_len];omega
  have hbl2:=hbl.trans (hb2.mono hbl.size);clear hk1 hk;obtain⟨A1,c1,rfl⟩:=ho1.form
  go_wp2_with fail
  have hb3:=Zac w2 (.cells #[.slice A1 Y.length c1] 54);have hbl3:=hbl2.trans (hb3.mono hbl2.size);refine(Zme 2 _ [Y] _ (Zum w2 (ho1.reads (bs:=1) (by omega))) (hT.mono (Zaa hbl3))).mono ?_;rintro e w3 ⟨d,rfl,hb4,hr⟩;have hbl4:=hbl3.trans (hb4.mono hbl3.size);rw[hR2.out]at hr;clear ho1 hT;go_wp2;go_ret2;exact⟨_,rfl,hbl4,hr.mono (Za8 hbl3.size)⟩
 ·have hR2:Hid (R=[]):=by show _=_;rw[←hR.out];unfold Zi4;rw[if_neg (by rw[hE.out];exact h0)]
  clear hk hk1;go_wp2;go_ret2;exact⟨_,rfl,hbl,by rw[hR2.out];exact RVec.nil _ _ _⟩
def Zjl(p:Nat→Int)(n:Nat):Int:=match (List.range n).find? (fun i=>p i != 0)with|some i=>p i|none=>0
theorem Zjk{p:Nat→Int}{n:Nat}{f:Int}(hk:k<n)(h:∀j,j<k→p j=0)(hf:p k=f)(h0:f≠0):Zjl p n=f:=by
 have:(List.range n).find? (fun i=>p i != 0)=some k:=by
  rw[List.find?_range_eq_some];exact⟨by simp[hf,h0],List.mem_range.2 hk,fun j hj=>by simp[h j hj]⟩
 unfold Zjl;simp only[this,hf]
theorem Zqr{p:Nat→Int}{n:Nat}(h:∀j,j<n→p j=0):Zjl p n=0:=by
 have:(List.range n).find? (fun i=>p i != 0)=none:=by
  rw[List.find?_eq_none];intro x hx;simp[h x (List.mem_range.1 hx)]
 unfold Zjl;simp only[this]
def encI(n:Int):Value:=.int .i64 n
theorem Zib(n:Int):(encI n).oneCell'=true:=rfl
abbrev RIs:=RVec encI 8
abbrev OwnI:=OwnVec encI 3
theorem Zvn:Zjx Tryz.prog 62 3 8:=Zzp (z:=.int .i64 0) Tryz.underlying62 (by kernel_rfl) rfl
theorem RIs.at{n:Nat}{xs:List Int}(hr:RIs h (.slice A n c) xs):n=xs.length∧n≤c∧n*8≤140737488355328∧∀k (hk:k<xs.length),∃b o,A=some ⟨b,o,none⟩∧h ⟨b,o+k,none⟩=some (.int .i64 xs[k]):=by
 obtain⟨A',c',e,h1,h2,h3,h4,h5⟩:=hr;injection e with e1 e2 e3;subst e1 e2 e3;refine⟨rfl,h1,h3,fun k hk=>?_⟩;obtain⟨b,o,ea,hc⟩:=h5 (by omega);exact⟨b,o,ea,hc k hk⟩
theorem Zur(ts:List TypeId)(h:(ts.all fun t=>Tryz.prog.readableRec t&&decide (t<Tryz.prog.types.size))=true):∀t∈ts,Tryz.prog.readableRec t=true∧t<Tryz.prog.types.size:=by
 intro t ht;have:=List.all_eq_true.1 h t ht;simpa using this
theorem Zzk:laidOutB Tryz.prog=true:=by kernel_rfl
theorem own_:ownKnob Tryz.prog.godebug=none:=by kernel_rfl
theorem Zp6:Zf4 Tryz.prog 3 (fun _ cs (n:Int)=>cs=[.int .i64 n]∧(Lit.int .i64 n).wf=true):=Zo0 Tryz.underlying3
theorem Zzf:Zf4 Tryz.prog 9 (fun _ cs (s:ByteArray)=>cs=[encS s]∧s.size≤reachBytes):=Zuz Tryz.underlying9
structure Hdr where
 author:Int
 round:Int
 batches:List (List UInt8)
 parents:List (List UInt8)
structure Crt where
 hdr:Hdr
 voters:List Int
def RCrt(h:View)(cs:List Value)(x:Crt):Prop:=∃vb vp vv,cs=[.int .i64 x.hdr.author,.int .i64 x.hdr.round,vb,vp,vv]∧RDigs h vb x.hdr.batches∧RDigs h vp x.hdr.parents∧RIs h vv x.voters
theorem RCrt.mono:Mono RCrt:=fun h h' cs x ⟨vb,vp,vv,e,h1,h2,h3⟩ hle=>⟨vb,vp,vv,e,h1.mono RDig.mono hle,h2.mono RDig.mono hle,h3.mono hle⟩
def idxI(p:α→Bool)(l:List α):Int:=match l.findIdx? p with|some i=>i|none=> -1
theorem Zi3{p:α→Bool}{l:List α}(hk:k<l.length)(h:∀j (hj:j<l.length),j<k→p l[j]=false)(hp:p l[k]=true):idxI p l=k:=by
 have:l.findIdx? p=some k:=by
  rw[List.findIdx?_eq_some_iff_getElem];exact⟨hk,hp,fun j hjk=>by simp[h j (by omega) hjk]⟩
 simp[idxI,this]
theorem Zky{p:α→Bool}{l:List α}(h:∀j (hj:j<l.length),p l[j]=false):idxI p l= -1:=by
 have:l.findIdx? p=none:=by
  rw[List.findIdx?_eq_none_iff];intro x hx;obtain⟨i,hi,rfl⟩:=List.getElem_of_mem hx;exact h i hi
 simp[idxI,this]
theorem Zfl(p:α→Bool)(l:List α):(idxI p l= -1∧l.any p=false)∨∃k:Nat,∃hk:k<l.length,idxI p l=k∧p l[k]=true∧∀j (hj:j<l.length),j<k→p l[j]=false:=by
 unfold idxI;split
 ·rename_i i hi;rw[List.findIdx?_eq_some_iff_getElem]at hi;obtain⟨h1,h2,h3⟩:=hi;exact .inr ⟨i,h1,rfl,h2,fun j hj hji=>by simpa using h3 j hji⟩
 ·rename_i hi;rw[List.findIdx?_eq_none_iff]at hi;refine .inl ⟨rfl,?_⟩;rw[List.any_eq_false];intro x hx;simp[hi x hx]
theorem Zj1(p:α→Bool)(l:List α):decide (0≤idxI p l)=l.any p:=by
 rcases Zfl p l with ⟨h1,h2⟩|⟨k,hk,h1,h2,_⟩
 ·rw[h1,h2];rfl
 ·rw[h1];have:l.any p=true:=List.any_eq_true.2 ⟨_,List.getElem_mem hk,h2⟩;rw[this];exact decide_eq_true (by omega)
section
variable (dg:Hdr→List UInt8)
def dsOf(l:List Crt):List (List UInt8):=l.map fun c=>dg c.hdr
def Zeu(ds:List (List UInt8))(d:List UInt8):Int:=idxI (·==d) ds
def Zew(a r:Int)(c:Crt):Bool:=c.hdr.author==a&&c.hdr.round==r
def Zhx(l:List Crt)(h:Hdr):Bool:=l.any (Zew h.author h.round)
def Zdq(l:List Crt)(ds:List (List UInt8))(r:Int)(p:List UInt8):Bool:=match l[(Zeu ds p).toNat]? with|some c=>decide (0≤Zeu ds p)&&c.hdr.round != r-1|none=>false
def Zgf(l:List Crt)(ds:List (List UInt8))(h:Hdr):Bool:=h.parents.any (Zdq l ds h.round)
def Zgg(ds:List (List UInt8))(h:Hdr):List (List UInt8):=h.parents.filter fun p=>decide (Zeu ds p<0)
def parF(l:List Crt)(ds:List (List UInt8))(h:Hdr):Int:=if Zgf l ds h then 9 else if (Zgg ds h).length=0 then 0 else 8
variable (cF:Crt→Int)
def badC(l:List Crt)(i:Nat):Bool:=match l[i]? with|some c=>Zhx (l.take i) c.hdr||decide (parF (l.take i) ((dsOf dg l).take i) c.hdr≠0)|none=>false
def dagF(l:List Crt):Int:=if 400<l.length then 12 else if l.any (fun c=>cF c != 0)then 12 else if (List.range l.length).any (badC dg l)then 12 else 0
def Zbu(l:List Crt)(r:Int):List Crt:=(List.range 4).filterMap fun n:Nat=>l.find? (Zew n r)
def Zbr(l:List Crt)(r:Int):List Crt:=l.filter fun c=>c.hdr.round==r
def Lone(l:List Crt):Prop:=l.Pairwise fun x y=>¬(x.hdr.author=y.hdr.author∧x.hdr.round=y.hdr.round)
def Auth(l:List Crt):Prop:=∀c∈l,0≤c.hdr.author∧c.hdr.author≤3
theorem Zep{a r:Int}{c:Crt}:Zew a r c=true↔c.hdr.author=a∧c.hdr.round=r:=by simp[Zew]
theorem Zkx{l:List Crt}(h:Lone l){x y:Crt}(hx:x∈l)(hy:y∈l)(h1:x.hdr.author=y.hdr.author)(h2:x.hdr.round=y.hdr.round):x=y:=by
 induction l with
 |nil=>cases hx
 |cons c l ih =>
  unfold Lone at h;rw[List.pairwise_cons]at h
  rcases List.mem_cons.1 hx with rfl|hx'<;>rcases List.mem_cons.1 hy with rfl|hy'
  ·rfl
  ·exact absurd ⟨h1,h2⟩ (h.1 y hy')
  ·exact absurd ⟨h1.symm,h2.symm⟩ (h.1 x hx')
  ·exact ih h.2 hx' hy'
theorem Zhj{l:List Crt}{r:Int}(hL:Lone l)(hA:Auth l){c:Crt}:c∈Zbu l r↔c∈Zbr l r:=by
 unfold Zbu Zbr;rw[List.mem_filterMap,List.mem_filter];constructor
 ·rintro⟨n,_,hf⟩;have h1:=List.mem_of_find?_eq_some hf;have h2:=Zep.1 (List.find?_some hf);exact⟨h1,by simp[h2.2]⟩
 ·rintro⟨h1,h2⟩;have h2:c.hdr.round=r:=by simpa using h2
  have ha:=hA c h1;refine⟨c.hdr.author.toNat,List.mem_range.2 (by omega),?_⟩;have hn:((c.hdr.author.toNat:Nat):Int)=c.hdr.author:=by omega
  rw[hn];cases hf:l.find? (Zew c.hdr.author r)with
  |none =>
   have:=List.find?_eq_none.1 hf c h1;exact absurd (Zep.2 ⟨rfl,h2⟩) (by simpa using this)
  |some d =>
   have k1:=List.mem_of_find?_eq_some hf;have k2:=Zep.1 (List.find?_some hf);rw[Zkx hL k1 h1 k2.1 (by rw[k2.2,h2])]
theorem Zhd(l:List Crt)(r:Int):(Zbu l r).Pairwise fun x y=>x.hdr.author<y.hdr.author:=by
 unfold Zbu;rw[List.pairwise_filterMap];refine List.Pairwise.imp ?_ List.pairwise_lt_range;intro a b hab x hx y hy;have h1:=Zep.1 (List.find?_some hx);have h2:=Zep.1 (List.find?_some hy);rw[h1.1,h2.1];omega
theorem Zp9{l:List Crt}(h:l.Pairwise fun x y=>x.hdr.author<y.hdr.author):l.Nodup :=
 h.imp fun {a b} hab e=>by rw[e]at hab;omega
theorem Znp{l:List Crt}(r:Int)(hL:Lone l):(Zbr l r).Nodup:=by
 unfold Zbr;have h:l.Nodup:=List.Pairwise.imp (fun {a b} hab e=>hab (by rw[e];exact⟨rfl,rfl⟩)) hL;exact List.Pairwise.sublist List.filter_sublist h
theorem Zjn{l:List Crt}(r:Int)(hL:Lone l)(hA:Auth l):(Zbu l r).Perm (Zbr l r) :=
 (List.perm_ext_iff_of_nodup (Zp9 (Zhd l r)) (Znp r hL)).2 fun _=>Zhj hL hA
theorem Zox{l out:List Crt}{r:Int}(hL:Lone l)(hA:Auth l)(hp:out.Perm (Zbr l r))(hs:out.Pairwise fun x y=>x.hdr.author≤y.hdr.author):out=Zbu l r:=by
 refine List.Perm.eq_of_pairwise (le:=fun x y=>x.hdr.author≤y.hdr.author) (fun a b ha hb h1 h2=>?_) hs ((Zhd l r).imp fun {a b} h=>by omega) (hp.trans (Zjn r hL hA).symm);have ha':=hp.mem_iff.1 ha;have hb':=(Zhj hL hA).1 hb;unfold Zbr at ha' hb';rw[List.mem_filter]at ha' hb';exact Zkx hL ha'.1 hb'.1 (by omega) (by have:=ha'.2;have:=hb'.2;simp at *;omega)
theorem Zls{l:List Crt}(r:Int)(hL:Lone l)(hA:Auth l):(Zbu l r).length=(Zbr l r).length:=(Zjn r hL hA).length_eq
theorem Ztr(l:List Crt)(r:Int):(Zbu l r).length≤4:=by
 unfold Zbu;exact Nat.le_trans (List.length_filterMap_le _ _) (by simp)
theorem Zv6{dg:Hdr→List UInt8}{l:List Crt}(h:∀j,j<l.length→badC dg l j=false):Lone l:=by
 unfold Lone;rw[List.pairwise_iff_getElem];intro i j hi hj hij hsame;have hb:=h j hj;unfold badC at hb;rw[List.getElem?_eq_getElem hj]at hb;simp only[Bool.or_eq_false_iff]at hb;have:=hb.1;unfold Zhx at this;rw[List.any_eq_false]at this
 have hm:l[i]∈l.take j:=by
  rw[List.mem_take_iff_getElem];exact⟨i,by omega,rfl⟩
 exact this _ hm (Zep.2 hsame)
theorem Zv5{dg:Hdr→List UInt8}{l:List Crt}(h:(List.range l.length).any (badC dg l)=false):∀j,j<l.length→badC dg l j=false:=fun j hj=>by
 rw[List.any_eq_false]at h
 simpa using h j (List.mem_range.2 hj)
theorem dagF_zero{dg:Hdr→List UInt8}{cF:Crt→Int}{l:List Crt}(h:dagF dg cF l=0):l.length≤400∧(∀c∈l,cF c=0)∧∀j,j<l.length→badC dg l j=false:=by
 unfold dagF at h;split at h
 ·cases h
 ·split at h
  ·cases h
  ·split at h
   ·cases h
   ·rename_i h1 h2 h3;refine⟨by omega,fun c hc=>?_,Zv5 (by simpa using h3)⟩;rw[Bool.not_eq_true,List.any_eq_false]at h2;simpa using h2 c hc
def Zdy(l:List Crt):Nat→Int→Int
 |0,r=>r
 |n+1,r=>if 3≤(Zbu l r).length then Zdy l n (r+1)else r
def Zs1(l:List Crt):Int:=Zdy l (l.length+1) 1
theorem Zqk{l:List Crt}{r:Int}(h:0<(Zbr l r).length):∃c∈l,c.hdr.round=r:=by
 obtain⟨c,hc⟩:=List.exists_mem_of_length_pos h;unfold Zbr at hc;rw[List.mem_filter]at hc;exact⟨c,hc.1,by simpa using hc.2⟩
theorem Zkv{l:List Crt}:∀(n:Nat) (r:Int) (k:Nat),k≤n→(∀j:Nat,j<k→3≤(Zbu l (r+j)).length)→Zdy l n r=Zdy l (n-k) (r+k)
 |n,r,0,_,_=>by simp
 |0,r,k+1,h,_=>by omega
 |n+1,r,k+1,h,hj=>by
  have h0:=hj 0 (by omega)
  simp only[Int.ofNat_zero,Int.add_zero]at h0
  rw[Zdy,if_pos h0,Zkv n (r+1) k (by omega) (fun j hjk=>by have:=hj (j+1) (by omega);rw[show r+((j+1:Nat):Int)=r+1+j by omega]at this;exact this)]
  rw[show n+1-(k+1)=n-k by omega,show r+((k+1:Nat):Int)=r+1+k by omega]
theorem rounds_len{l:List Crt}:∀(k:Nat) (r:Int),(∀j:Nat,j<k→1≤(Zbr l (r+j)).length)→k≤l.length:=by
 intro k
 induction k generalizing l with
 |zero=>intro r _;omega
 |succ k ih =>
  intro r h;obtain⟨c,hc,hr⟩:=Zqk (h k (by omega));have hne:c∈l:=hc
  have hl:(l.filter fun x=>x.hdr.round != r+k).length+1≤l.length:=by
   have h1:=List.length_filter_lt_length_iff_exists (p:=fun x:Crt=>x.hdr.round != r+k) (l:=l);have:=h1.2 ⟨c,hc,by simp[hr]⟩;omega
  have:=ih (l:=l.filter fun x=>x.hdr.round != r+k) r (fun j hj=>by
   have h1:=h j (by omega)
   have e:Zbr (l.filter fun x=>x.hdr.round != r+k) (r+j)=Zbr l (r+j):=by
    unfold Zbr;rw[List.filter_filter];refine List.filter_congr fun x _=>?_
    by_cases hx:x.hdr.round=r+j
    ·simp[hx];omega
    ·simp[hx]
   rw[e];exact h1)
  omega
theorem Zxf{l:List Crt}(hL:Lone l)(hA:Auth l)(h:∀j:Nat,j<k→3≤(Zbu l (1+j)).length)(hk:(Zbu l (1+k)).length<3):Zs1 l=1+k:=by
 have hkl:k≤l.length:=rounds_len k 1 fun j hj=>by have:=h j hj;rw[Zls _ hL hA]at this;omega
 unfold Zs1;rw[Zkv (l.length+1) 1 k (by omega) h,show l.length+1-k=(l.length-k)+1 by omega,Zdy,if_neg (by omega)]
end
theorem Zhk(g:Nat)(lb:Array Value)(p:List UInt8→Bool)(eg:∀args w,(callFunc g args).run Tryz.prog w=.ok (.enter g args) w)(vl:Value)(l:List (List UInt8))(w:World)(hl:RDigs w.cell? vl l)(hp:∀(W:World) (d:Value) (x:List UInt8),Below w.heap.size w W→Zao W.cell? d x→Calls Tryz.prog g (#[d]++lb) W fun e w'=>e=.returned (.bool (p x))∧Below W.heap.size W w') :
 Calls Tryz.prog 117 #[vl,.func (.func g) #[] lb] w fun e w'=>e=.returned (.int .i64 (idxI p l))∧Below w.heap.size w w':=by
 obtain⟨A,c,rfl,hform⟩:=id hl;clear hform;obtain⟨_,hn1,hn2,hel⟩:=hl.at;have Hel:=Lib.hid hel;have Hp:=Lib.hid hp;clear hl hel hp
 go_enter Tryz.func117,Tryz.ntmps117
 go_wp2
 go_loopw [8] (fun i wr=>∃k:Nat,k≤l.length∧i=.int .i64 k∧Hid (∀j (hj:j<l.length),j<k→p l[j]=false)∧Below w.heap.size w wr) (fun i _=>l.length-(intOf i).toNat)
 case atStart=>exact⟨0,Nat.zero_le _,rfl,fun j _ hj=>by omega,Below.refl _ _⟩
 case round =>
  obtain⟨k,hk,rfl,hno,hbl⟩:=hrel
  by_cases hlt:k<l.length
  ·obtain⟨b0,o0,d,rfl,q0,hd⟩:=Hel.out k hlt;have c0:=Zaa hbl _ _ q0;have hR:Hid (Zao wr.cell? d l[k]):=hd.mono (Zaa hbl);clear q0
   go_wp2_with fail
   refine(Hp.out _ d l[k] hbl hR.out).mono ?_;rintro e w1 ⟨rfl,hb'⟩;have hbl1:=hbl.trans (hb'.mono hbl.size);clear hR hb' c0;cases e1:p l[k]
   ·have Hb:=Lib.hid e1;clear e1;go_wp2;go_roundw
    case rel=>exact⟨k+1,by omega,by go_num,fun j hj hjk=>by
     by_cases e:j=k
     ·subst e;exact Hb.out
     ·exact hno.out j hj (by omega),hbl1⟩
    case measure=>simp[intOf];omega
   ·have Hb:=Lib.hid e1;clear e1;go_wp2;go_ret;exact⟨Zaj (Zi3 hlt hno.out Hb.out).symm,hbl1⟩
  ·go_wp2;go_ret;exact⟨Zaj (Zky fun j hj=>hno.out j hj (by omega)).symm,hbl⟩
theorem Zk2(g:Nat)(lb:Array Value)(p:List UInt8→Bool)(eg:∀args w,(callFunc g args).run Tryz.prog w=.ok (.enter g args) w)(vl:Value)(l:List (List UInt8))(w:World)(hl:RDigs w.cell? vl l)(hp:∀(W:World) (d:Value) (x:List UInt8),Below w.heap.size w W→Zao W.cell? d x→Calls Tryz.prog g (#[d]++lb) W fun e w'=>e=.returned (.bool (p x))∧Below W.heap.size W w') :
 Calls Tryz.prog 134 #[vl,.func (.func g) #[] lb] w fun e w'=>e=.returned (.bool (l.any p))∧Below w.heap.size w w':=by
 have Hp:=Lib.hid hp;clear hp;rw[←Zj1 p l];obtain⟨i,hi⟩:∃i,Hid (idxI p l=i):=⟨_,rfl⟩;rw[hi.out]
 go_enter Tryz.func134,Tryz.ntmps134
 go_wp2_with fail
 refine(Zhk g lb p eg vl l _ hl Hp.out).mono ?_;rintro e w1 ⟨rfl,hb⟩;rw[hi.out];clear hi hl
 by_cases h0:0≤i
 ·have Hq:Hid (decide (0≤i)=true):=decide_eq_true h0;go_wp2;go_ret;exact⟨Zap Hq.out.symm,hb⟩
 ·have Hq:Hid (decide (0≤i)=false):=decide_eq_false h0;go_wp2;go_ret;exact⟨Zap (by rw[Hq.out]),hb⟩
abbrev RCrts:=RSl 5 RCrt 88
theorem Zk7:Elem Tryz.prog 38 64 5 88:=Znz (z:=.agg #[.int .i64 0,.int .i64 0,.slice none 0 0,.slice none 0 0,.slice none 0 0]) Tryz.underlying38 (by kernel_rfl) rfl (by decide)
theorem RCrts.at{n:Nat}{xs:List Crt}(hr:RCrts h (.slice A n c) xs):n=xs.length∧n≤c∧n*88≤140737488355328∧∀k (hk:k<xs.length),∃b o vb vp vv,A=some ⟨b,o,none⟩∧h ⟨b,o+k*5,none⟩=some (.int .i64 xs[k].hdr.author)∧h ⟨b,o+k*5+1,none⟩=some (.int .i64 xs[k].hdr.round)∧h ⟨b,o+k*5+2,none⟩=some vb∧h ⟨b,o+k*5+3,none⟩=some vp∧h ⟨b,o+k*5+4,none⟩=some vv∧RDigs h vb xs[k].hdr.batches∧RDigs h vp xs[k].hdr.parents∧RIs h vv xs[k].voters:=by
 obtain⟨A',c',e,h1,_,h2,_,h3⟩:=hr;injection e with e1 e2 e3;subst e1 e2 e3;refine⟨rfl,h1,h2,fun k hk=>?_⟩;obtain⟨b,o,ea,hc⟩:=h3 (by omega);obtain⟨cs,hl,hcell,vb,vp,vv,rfl,q1,q2,q3⟩:=hc k hk;exact⟨b,o,vb,vp,vv,ea,hcell 0 (by omega),hcell 1 (by omega),hcell 2 (by omega),hcell 3 (by omega),hcell 4 (by omega),q1,q2,q3⟩
theorem Zkz(g:Nat)(lb:Array Value)(p:Crt→Bool)(eg:∀args w,(callFunc g args).run Tryz.prog w=.ok (.enter g args) w)(vl:Value)(l:List (Crt))(w:World)(hl:RCrts w.cell? vl l)(hp:∀(W:World) (cs:List Value) (x:Crt),Below w.heap.size w W→RCrt W.cell? cs x→Calls Tryz.prog g (#[.agg cs.toArray]++lb) W fun e w'=>e=.returned (.bool (p x))∧Below W.heap.size W w') :
 Calls Tryz.prog 119 #[vl,.func (.func g) #[] lb] w fun e w'=>e=.returned (.int .i64 (idxI p l))∧Below w.heap.size w w':=by
 obtain⟨A,c,rfl,hform⟩:=id hl;clear hform;obtain⟨_,hn1,hn2,hel⟩:=hl.at;have Hel:=Lib.hid hel;have Hp:=Lib.hid hp;clear hl hel hp
 go_enter Tryz.func119,Tryz.ntmps119
 go_wp2
 go_loopw [8] (fun i wr=>∃k:Nat,k≤l.length∧i=.int .i64 k∧Hid (∀j (hj:j<l.length),j<k→p l[j]=false)∧Below w.heap.size w wr) (fun i _=>l.length-(intOf i).toNat)
 case atStart=>exact⟨0,Nat.zero_le _,rfl,fun j _ hj=>by omega,Below.refl _ _⟩
 case round =>
  obtain⟨k,hk,rfl,hno,hbl⟩:=hrel
  by_cases hlt:k<l.length
  ·obtain⟨b0,o0,vb,vp,vv,rfl,q0,q1,q2,q3,q4,hb,hp,hv⟩:=Hel.out k hlt;have c0:=Zaa hbl _ _ q0;have c1:=Zaa hbl _ _ q1;have c2:=Zaa hbl _ _ q2;have c3:=Zaa hbl _ _ q3;have c4:=Zaa hbl _ _ q4;have hR:Hid (RCrt wr.cell? [.int .i64 l[k].hdr.author,.int .i64 l[k].hdr.round,vb,vp,vv] l[k]):=⟨vb,vp,vv,rfl,hb.mono RDig.mono (Zaa hbl),hp.mono RDig.mono (Zaa hbl),hv.mono (Zaa hbl)⟩;clear q0 q1 q2 q3 q4
   go_wp2_with fail
   refine(Hp.out _ [.int .i64 l[k].hdr.author,.int .i64 l[k].hdr.round,vb,vp,vv] l[k] hbl hR.out).mono ?_;rintro e w1 ⟨rfl,hb'⟩;have hbl1:=hbl.trans (hb'.mono hbl.size);clear hR hb' c0 c1 c2 c3 c4;cases e1:p l[k]
   ·have Hb:=Lib.hid e1;clear e1;go_wp2;go_roundw
    case rel=>exact⟨k+1,by omega,by go_num,fun j hj hjk=>by
     by_cases e:j=k
     ·subst e;exact Hb.out
     ·exact hno.out j hj (by omega),hbl1⟩
    case measure=>simp[intOf];omega
   ·have Hb:=Lib.hid e1;clear e1;go_wp2;go_ret;exact⟨Zaj (Zi3 hlt hno.out Hb.out).symm,hbl1⟩
  ·go_wp2;go_ret;exact⟨Zaj (Zky fun j hj=>hno.out j hj (by omega)).symm,hbl⟩
theorem Zhl(g:Nat)(lb:Array Value)(p:Crt→Bool)(eg:∀args w,(callFunc g args).run Tryz.prog w=.ok (.enter g args) w)(vl:Value)(l:List (Crt))(w:World)(hl:RCrts w.cell? vl l)(hp:∀(W:World) (cs:List Value) (x:Crt),Below w.heap.size w W→RCrt W.cell? cs x→Calls Tryz.prog g (#[.agg cs.toArray]++lb) W fun e w'=>e=.returned (.bool (p x))∧Below W.heap.size W w') :
 Calls Tryz.prog 91 #[vl,.func (.func g) #[] lb] w fun e w'=>e=.returned (.bool (l.any p))∧Below w.heap.size w w':=by
 have Hp:=Lib.hid hp;clear hp;rw[←Zj1 p l];obtain⟨i,hi⟩:∃i,Hid (idxI p l=i):=⟨_,rfl⟩;rw[hi.out]
 go_enter Tryz.func91,Tryz.ntmps91
 go_wp2_with fail
 refine(Zkz g lb p eg vl l _ hl Hp.out).mono ?_;rintro e w1 ⟨rfl,hb⟩;rw[hi.out];clear hi hl
 by_cases h0:0≤i
 ·have Hq:Hid (decide (0≤i)=true):=decide_eq_true h0;go_wp2;go_ret;exact⟨Zap Hq.out.symm,hb⟩
 ·have Hq:Hid (decide (0≤i)=false):=decide_eq_false h0;go_wp2;go_ret;exact⟨Zap (by rw[Hq.out]),hb⟩
theorem OwnVec.made(enc:α→Value)(e:TypeId)(w:World)(base:Nat)(h:base≤w.heap.size):OwnVec enc e (w.alloc (.cells #[] e)) base (.slice (some ⟨w.heap.size,0,none⟩) 0 0) [] :=
 ⟨World.ownsRow_made w #[] 0 h (Nat.zero_le _) rfl⟩
theorem RVec.isNil{n:Nat}(hr:RVec enc bs h (.slice none n c) xs):xs=[]∧n=0∧c=0:=by
 obtain⟨A',c',e,h1,_,_,h4,_⟩:=hr;injection e with e1 e2 e3;have hc:=h4 e1.symm;have:xs.length=0:=by omega
 exact⟨List.eq_nil_of_length_eq_zero this,by omega,by omega⟩
theorem Zci(v:Value)(xs:List UInt8)(w:World)(hr:Zao w.cell? v xs) :
 Calls Tryz.prog 54 #[v] w fun e w'=>∃v',e=.returned v'∧Below w.heap.size w w'∧OwnB w' w.heap.size v' xs:=by
 have hb:xs.length≤140737488355328:=by obtain⟨A,c,_,_,_,h,_⟩:=hr;omega
 have hb1:=Lib.hid hb;obtain⟨A,c,rfl,_⟩:=id hr;have e1:=@Lib.run_eql_slice_nil Tryz.prog;clear hb;cases A with
 |none =>
  obtain⟨rfl,h1,rfl⟩:=hr.isNil
  go_enter Tryz.func54,Tryz.ntmps54
  go_wp2;go_ret;exact⟨_,rfl,Below.refl _ _,OwnVec.nil _ _ _ _⟩
 |some a =>
  have hr':=hr.mono (Zaa ((Below.refl _ _).alloc (Nat.le_refl _) (.cells #[] 5)));clear hr
  go_enter Tryz.func54,Tryz.ntmps54
  go_wp2_with (at_builtin;refine Za5 (n:=140737488355328) Za9 Zb8 _ _ rfl rfl rfl (OwnVec.made _ _ _ _ (Nat.le_refl _)) ((Below.refl _ _).alloc (Nat.le_refl _) _) (Zau _ (Nat.le_refl _)) rfl hr' (Nat.le_refl _) (by simpa using hb1.out) (by simpa using hb1.out) ?_)
  intro v' w1 ho hbl _;go_wp2;go_ret;exact⟨v',rfl,hbl,by simpa using ho⟩
end Go.Proofs.YtinibgklgehdpaaGreatDoor
