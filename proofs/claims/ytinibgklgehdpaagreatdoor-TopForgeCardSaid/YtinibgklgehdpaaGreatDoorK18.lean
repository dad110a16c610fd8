/- A part of what the last text stands on. -/
import Derived.Test.YtinibgklgehdpaaGreatDoorK07
import Derived.Test.YtinibgklgehdpaaGreatDoorK09
import Derived.Test.YtinibgklgehdpaaGreatDoorK15
import Derived.Test.YtinibgklgehdpaaGreatDoorK17
namespace Go.Proofs.YtinibgklgehdpaaGreatDoor
open Go.ChangeShapes Go.WideShapes Go.ChangeAt Go.RowKit Qa Qb Qc
set_option linter.all false
set_option maxHeartbeats 20000000
set_option maxRecDepth 100000
variable{h:View}{k i:Nat}{m:Msg}{ms:List Msg}{l:List Crt}
namespace Fl
def Zaz(ms:List Msg):List UInt8:=(ms.map appF).flatten
def Good(ms:List Msg):Prop:=∀m∈ms,recF m=0
theorem Zfk(h:recF m=0):msgF m=0∧m.src=0∧m.dst=0∧m.kind≠5:=by
 unfold recF at h;split at h
 ·rename_i h1;exact absurd h h1
 ·rename_i h1;split at h
  ·cases h
  ·rename_i h2;simp only[not_or,Decidable.not_not,ne_eq]at h2;exact⟨Classical.not_not.1 h1,h2.1,h2.2.1,h2.2.2⟩
theorem Zit(m:Msg)(ms:List Msg):Zaz (m::ms)=appF m++Zaz ms:=by simp[Zaz]
theorem Zdd(a b:List Msg):Zaz (a++b)=Zaz a++Zaz b:=by simp[Zaz]
theorem Zmo(a:List Msg)(m:Msg):Zaz (a++[m])=Zaz a++appF m:=by simp[Zaz]
theorem Zih(m:Msg):(appF m).length=2+(msgB m).length:=by simp[appF];omega
theorem Zdw{a b:List UInt8}:(a++b)[a.length+k]?=b[k]?:=by
 rw[List.getElem?_append_right (by omega)]
 congr 1
 omega
theorem Zjz{a:List UInt8}{b:List UInt8}(h:msgF m=0):recN (a++(appF m++b)) a.length=(msgB m).length:=by
 have hl:=msgB_len h
 have e0:(a++(appF m++b))[a.length]?=some (Zar ((msgB m).length/256:Nat)):=by
  have:=Zdw (a:=a) (b:=appF m++b) (k:=0);rw[Nat.add_zero]at this;rw[this];simp[appF]
 have e1:(a++(appF m++b))[a.length+1]?=some (Zar ((msgB m).length:Nat)):=by
  rw[Zdw];simp[appF]
 unfold recN;rw[e0,e1];simp only;rw[Zlm (by omega),Zlm (by omega)];omega
theorem Zri{a:List UInt8}{b:List UInt8}(h:msgF m=0):recB (a++(appF m++b)) a.length=msgB m:=by
 unfold recB;rw[Zjz h]
 have e:(a++(appF m++b)).drop (a.length+2)=msgB m++b:=by
  have e2:appF m=[Zar ((msgB m).length/256:Nat),Zar ((msgB m).length:Nat)]++msgB m:=rfl;rw[←List.drop_drop,List.drop_left,e2];rfl
 rw[e,List.take_left]
theorem Zvi{a:List UInt8}{b:List UInt8}(h:recF m=0):Zfn (a++(appF m++b)) a.length=true:=by
 have h0:=(Zfk h).1;obtain⟨h1,h2⟩:=Zvq h0;have hl:=Zih m;unfold Zfn;rw[Zjz h0,Zri h0,h1,h2,h];simp only[List.length_append,Bool.and_eq_true,decide_eq_true_eq]
 refine⟨⟨⟨?_,?_⟩,trivial⟩,trivial⟩<;>omega
theorem rcv_stop{d:List UInt8}{a:Nat}(hg:Zfn d a=false):rcvR d k ms a=(ms,a):=by
 cases k with
 |zero=>rfl
 |succ k=>rw[rcvR,if_neg (by rw[hg];decide)]
theorem Zw3:∀(ms:List Msg),Good ms→∀(pre:List UInt8) (ys:List Msg) (b:List UInt8) (k:Nat),ms.length≤k→∃k',k'+ms.length=k∧rcvR (pre++(Zaz ms++b)) k ys pre.length=rcvR (pre++(Zaz ms++b)) k' (ys++ms) (pre.length+(Zaz ms).length):=by
 intro ms
 induction ms with
 |nil=>intro _ pre ys b k _;exact⟨k,rfl,by simp[Zaz]⟩
 |cons m ms ih =>
  intro hg pre ys b k hk;have h0:=hg m (by simp);have hm:=(Zfk h0).1;cases k with
  |zero=>simp at hk
  |succ k =>
   obtain⟨k',h1,h2⟩:=ih (fun x hx=>hg x (by simp[hx])) (pre++appF m) (ys++[m]) b k (by simp at hk;omega);refine⟨k',by simp;omega,?_⟩;rw[Zit,List.append_assoc];rw[rcvR,if_pos (Zvi h0),Zri hm,(Zvq hm).2,Zjz hm];have e1:pre.length+2+(msgB m).length=(pre++appF m).length:=by rw[List.length_append,Zih];omega
   rw[List.append_assoc]at h2;rw[e1,h2]
   congr 1
   ·simp
   ·simp;omega
theorem Znn(ms:List Msg):ms.length≤(Zaz ms).length:=by
 induction ms with
 |nil=>exact Nat.le_refl _
 |cons m ms ih=>rw[Zit,List.length_append,Zih,List.length_cons];omega
theorem Zvh(d:List UInt8):Zfn d d.length=false:=by
 unfold Zfn;have:decide (d.length+2≤d.length)=false:=by simp
 rw[this];rfl
theorem Zs9{a:List UInt8}(h:msgF m=0)(hk:k<(appF m).length):Zfn (a++(appF m).take k) a.length=false:=by
 unfold Zfn;have hl:=Zih m
 by_cases h2:k<2
 ·have:decide (a.length+2≤(a++(appF m).take k).length)=false:=by simp;omega
  rw[this];rfl
 ·have hn:recN (a++(appF m).take k) a.length=(msgB m).length:=by
   have h0:=Zjz (a:=a) (b:=[]) h;rw[List.append_nil]at h0;rw[←h0];unfold recN;have e0:=Zdw (a:=a) (b:=(appF m).take k) (k:=0);have e1:=Zdw (a:=a) (b:=(appF m).take k) (k:=1);have f0:=Zdw (a:=a) (b:=appF m) (k:=0);have f1:=Zdw (a:=a) (b:=appF m) (k:=1);rw[Nat.add_zero]at e0 f0;rw[e0,e1,f0,f1,List.getElem?_take,if_pos (by omega),List.getElem?_take,if_pos (by omega)]
  have:decide (a.length+2+recN (a++(appF m).take k) a.length≤(a++(appF m).take k).length)=false:=by
   rw[hn];simp;omega
  rw[this];simp
theorem Zus(hg:Good ms)(hk:k≤(Zaz ms).length) :
 ∃j,j≤ms.length∧rcvP ((Zaz ms).take k)=(ms.take j,(Zaz (ms.take j)).length)∧(Zaz (ms.take j)).length≤k∧∀i,i≤ms.length→(Zaz (ms.take i)).length≤k→i≤j:=by
 -- the greatest number of whole records
 have hmono:∀i,i≤ms.length→∀j,j≤i→(Zaz (ms.take j)).length+(i-j)≤(Zaz (ms.take i)).length:=by
  intro i hi j hj
  have e:ms.take i=ms.take j++(ms.take i).drop j:=by
   have:=(List.take_append_drop j (ms.take i)).symm;rwa[List.take_take,Nat.min_eq_left hj]at this
  rw[e,Zdd,List.length_append];have:=Znn ((ms.take i).drop j);simp at this;omega
 obtain⟨j,hj,hjk,hmax⟩:∃j,j≤ms.length∧(Zaz (ms.take j)).length≤k∧∀i,i≤ms.length→(Zaz (ms.take i)).length≤k→i≤j:=by
  have:∀n,n≤ms.length→(∀i,i≤ms.length→n<i→¬(Zaz (ms.take i)).length≤k)→∃j,j≤ms.length∧(Zaz (ms.take j)).length≤k∧∀i,i≤ms.length→(Zaz (ms.take i)).length≤k→i≤j:=by
   intro n
   induction n with
   |zero=>intro hn hlt;exact⟨0,Nat.zero_le _,by simp[Zaz],fun i hi hle=>Nat.le_of_not_lt fun h=>hlt i hi h hle⟩
   |succ n ih =>
    intro hn hlt
    by_cases hk:(Zaz (ms.take (n+1))).length≤k
    ·exact⟨n+1,hn,hk,fun i hi hle=>Nat.le_of_not_lt fun h=>hlt i hi h hle⟩
    ·refine ih (by omega) (fun i hi hni hle=>?_)
     by_cases e:i=n+1
     ·subst e;exact hk hle
     ·exact hlt i hi (by omega) hle
  exact this ms.length (Nat.le_refl _) (fun i hi h=>by omega)
 refine⟨j,hj,?_,hjk,hmax⟩;have hgj:Good (ms.take j):=fun m hm=>hg m (List.mem_of_mem_take hm)
 -- the cut tape: whole records,then a torn one
 have hsplit:Zaz ms=Zaz (ms.take j)++Zaz (ms.drop j):=by rw[←Zdd,List.take_append_drop]
 have htake:(Zaz ms).take k=Zaz (ms.take j)++(Zaz (ms.drop j)).take (k-(Zaz (ms.take j)).length):=by
  rw[hsplit,List.take_append,List.take_of_length_le hjk]
 rw[htake]
 have hstop:Zfn (Zaz (ms.take j)++(Zaz (ms.drop j)).take (k-(Zaz (ms.take j)).length)) (Zaz (ms.take j)).length=false:=by
  cases hd:ms.drop j with
  |nil =>
   have:=Zvh (Zaz (ms.take j));simpa[Zaz]using this
  |cons m r =>
   have hjlt:j<ms.length:=by
    have:(ms.drop j).length≠0:=by rw[hd];simp
    simp at this;omega
   have hm:m=ms[j]:=by
    have:=List.drop_eq_getElem_cons hjlt;rw[hd]at this;injection this
   have h1:¬(Zaz (ms.take (j+1))).length≤k:=fun hle=>by have:=hmax (j+1) (by omega) hle;omega
   rw[List.take_succ_eq_append_getElem hjlt,Zmo,List.length_append,←hm]at h1;rw[Zit,List.take_append_of_le_length (by omega)];exact Zs9 (Zfk (hg m (by rw[hm];exact List.getElem_mem hjlt))).1 (by omega)
 unfold rcvP;obtain⟨k',h1,h2⟩:=Zw3 (ms.take j) hgj [] [] ((Zaz (ms.drop j)).take (k-(Zaz (ms.take j)).length)) ((Zaz (ms.take j)++(Zaz (ms.drop j)).take (k-(Zaz (ms.take j)).length)).length+1) (by have:=Znn (ms.take j);simp only[List.length_append];omega);simp only[List.nil_append,List.length_nil,Nat.zero_add]at h2;rw[h2,rcv_stop hstop]
theorem Zip{l:List Slot}{a r:Int}:Zb1 l a r<0↔∀s∈l,¬(s.author=a∧s.round=r):=by
 unfold Zb1;constructor
 ·intro h s hs;split at h
  ·omega
  ·rename_i hn;rw[List.findIdx?_eq_none_iff]at hn;have:=hn s hs;simpa using this
 ·intro h;split
  ·rename_i i hi;obtain⟨h1,h2,_⟩:=List.findIdx?_eq_some_iff_getElem.1 hi;have:=h l[i] (List.getElem_mem h1);simp at h2;exact absurd h2 this
  ·decide
theorem Znh{l:List Slot}{a r:Int}(h:0≤Zb1 l a r):∃i,∃hi:i<l.length,Zb1 l a r=i∧l[i].author=a∧l[i].round=r:=by
 unfold Zb1 at h⊢;split at h
 ·rename_i i hi;obtain⟨h1,h2,_⟩:=List.findIdx?_eq_some_iff_getElem.1 hi;simp at h2;exact⟨i,h1,rfl,h2⟩
 ·exact absurd h (by decide)
def Zlu(s:Slot):Prop:=Zf7 s.author s.round s.digest.length=0
def Uniq(l:List Slot):Prop:=l.Pairwise fun x y=>¬(x.author=y.author∧x.round=y.round)
theorem Zc5{l:List Slot}:Zdb l=0↔l.length≤400∧(∀s∈l,Zlu s)∧Uniq l:=by
 unfold Zdb;constructor
 ·intro h;split at h
  ·cases h
  ·split at h
   ·cases h
   ·rename_i h1 h2
    have hall:∀i (hi:i<l.length),Zf7 l[i].author l[i].round l[i].digest.length=0∧Zb1 (l.take i) l[i].author l[i].round<0:=fun i hi=>by
     rw[Bool.not_eq_true,List.any_eq_false]at h2;have:=h2 i (List.mem_range.2 hi);unfold Zhn at this;rw[List.getElem?_eq_getElem hi]at this;simp at this;omega
    refine⟨by omega,fun s hs=>?_,?_⟩
    ·obtain⟨i,hi,rfl⟩:=List.getElem_of_mem hs;exact(hall i hi).1
    ·unfold Uniq;rw[List.pairwise_iff_getElem];intro i j hi hj hij;have:=Zip.1 (hall j hj).2 l[i] (by rw[List.mem_take_iff_getElem];exact⟨i,by omega,rfl⟩);exact this
 ·rintro⟨h1,h2,h3⟩;rw[if_neg (by omega),if_neg ?_];rw[Bool.not_eq_true,List.any_eq_false];intro i hi;have hi:=List.mem_range.1 hi;unfold Zhn;rw[List.getElem?_eq_getElem hi];have q1:=h2 l[i] (List.getElem_mem hi)
  have q2:Zb1 (l.take i) l[i].author l[i].round<0:=Zip.2 fun s hs=>by
   rw[List.mem_take_iff_getElem]at hs;obtain⟨j,hj,rfl⟩:=hs;have:=List.pairwise_iff_getElem.1 h3 j i (by omega) hi (by omega);exact this
  unfold Zlu at q1;simp[q1];omega
theorem hD_len{h:Hdr}(hv:hF h=0):(hD h).length=32:=by
 have hl:=headerB_len hv;unfold hD hdrD tagR;rw[if_neg]
 ·exact Zra _
 ·simp[Zdr];omega
theorem Zvg{h:Hdr}(hv:hF h=0):hdR h=hD h:=by
 unfold hdR Zi4;rw[if_pos (show Zb3 h.author h.round h.batches h.parents=0 from hv)];rfl
theorem Zrc{h:Hdr}(hv:hF h=0):Zlu (Zcj h):=by
 obtain⟨h1,h2,_⟩:=headF_zero hv;unfold Zlu Zcj Zf7;simp only[hD_len hv];rw[Zbi.2 h1,Zbi.2 h2];rfl
theorem Zeq{l:List Slot}{h:Hdr}(hc:Ze2 l h=0):Zdb l=0∧hF h=0∧Zcy l h=Zcj h ∧
 ((Zc4 l h=l∧Zcj h∈l)∨(Zc4 l h=l++[Zcj h]∧l.length<400∧∀s∈l,¬(s.author=h.author∧s.round=h.round))):=by
 have hc0:=hc;unfold Ze2 at hc;split at hc
 ·rename_i h1;exact absurd hc h1
 ·rename_i h1;split at hc
  ·rename_i h2;exact absurd hc h2
  ·rename_i h2;refine⟨Classical.not_not.1 h1,Classical.not_not.1 h2,by unfold Zcy;rw[if_pos hc0],?_⟩;split at hc
   ·rename_i h3;obtain⟨i,hi,e,e1,e2⟩:=Znh h3;rw[e,Int.toNat_natCast,List.getElem?_eq_getElem hi]at hc;simp only at hc;split at hc
    ·rename_i h4;refine .inl ⟨by unfold Zc4;rw[if_pos hc0,if_pos h3],?_⟩;have h4:l[i].digest=hD h:=by simpa using h4
     have:l[i]=Zcj h:=by
      cases hs:l[i]with
      |mk a r d=>rw[hs]at e1 e2 h4;simp at e1 e2 h4;simp[Zcj,e1,e2,h4]
     rw[←this];exact List.getElem_mem hi
    ·cases hc
   ·rename_i h3;split at hc
    ·cases hc
    ·exact .inr ⟨by unfold Zc4;rw[if_pos hc0,if_neg h3],by omega,Zip.1 (by omega)⟩
theorem Zg0{l:List Slot}{h:Hdr}(hc:Ze2 l h=0):Zdb (Zc4 l h)=0∧Zcj h∈Zc4 l h∧(∀s∈l,s∈Zc4 l h)∧l <+: Zc4 l h:=by
 obtain⟨h1,h2,_,h3⟩:=Zeq hc
 rcases h3 with ⟨e,h4⟩|⟨e,h4,h5⟩
 ·rw[e];exact⟨h1,h4,fun s hs=>hs,List.prefix_refl _⟩
 ·rw[e];obtain⟨q1,q2,q3⟩:=Zc5.1 h1;refine⟨Zc5.2 ⟨by simp;omega,fun s hs=>?_,?_⟩,by simp,fun s hs=>by simp[hs],List.prefix_append _ _⟩
  ·rcases List.mem_append.1 hs with hs|hs
   ·exact q2 s hs
   ·rw[List.mem_singleton.1 hs];exact Zrc h2
  ·unfold Uniq;rw[List.pairwise_append];refine⟨q3,List.pairwise_singleton _ _,fun a ha b hb=>?_⟩;rw[List.mem_singleton.1 hb];exact h5 a ha
theorem Zgh{c:Crt}(h:insE l c=0):dagF hD cF l=0∧cF c=0∧Zhx l c.hdr=false∧parF l (dsOf hD l) c.hdr=0∧l.length<400∧insL l c=l++[c]:=by
 have h0:=h;unfold insE at h;split at h
 ·rename_i q;exact absurd h q
 ·rename_i q1;split at h
  ·rename_i q;exact absurd h q
  ·rename_i q2;split at h
   ·cases h
   ·rename_i q3;split at h
    ·rename_i q;exact absurd h q
    ·rename_i q4;split at h
     ·cases h
     ·exact⟨Classical.not_not.1 q1,Classical.not_not.1 q2,by simpa using q3,Classical.not_not.1 q4,by omega,by unfold insL;rw[if_pos h0]⟩
theorem Zk8(f:Hdr→List UInt8)(a b:List Crt):dsOf f (a++b)=dsOf f a++dsOf f b:=by simp[dsOf]
theorem dagF_zero:dagF hD cF l=0↔l.length≤400∧(∀c∈l,cF c=0)∧∀i,i<l.length→badC hD l i=false:=by
 unfold dagF;constructor
 ·intro h;split at h
  ·cases h
  ·split at h
   ·cases h
   ·split at h
    ·cases h
    ·rename_i h1 h2 h3;refine⟨by omega,fun c hc=>?_,fun i hi=>?_⟩
     ·rw[Bool.not_eq_true,List.any_eq_false]at h2;simpa using h2 c hc
     ·rw[Bool.not_eq_true,List.any_eq_false]at h3;simpa using h3 i (List.mem_range.2 hi)
 ·rintro⟨h1,h2,h3⟩;rw[if_neg (by omega),if_neg ?_,if_neg ?_]
  ·rw[Bool.not_eq_true,List.any_eq_false];intro i hi;simp[h3 i (List.mem_range.1 hi)]
  ·rw[Bool.not_eq_true,List.any_eq_false];intro c hc;simp[h2 c hc]
theorem Zq0{r:List Crt}(hi:i<l.length):badC hD (l++r) i=badC hD l i:=by
 unfold badC;rw[List.getElem?_append_left hi,List.take_append_of_le_length (by omega),Zk8,List.take_append_of_le_length (by simp[dsOf];omega)]
theorem Zzl{c:Crt}(h:insE l c=0):dagF hD cF (l++[c])=0:=by
 obtain⟨h1,h2,h3,h4,h5,_⟩:=Zgh h;obtain⟨q1,q2,q3⟩:=dagF_zero.1 h1;refine dagF_zero.2 ⟨by simp;omega,fun x hx=>?_,fun i hi=>?_⟩
 ·rcases List.mem_append.1 hx with hx|hx
  ·exact q2 x hx
  ·rw[List.mem_singleton.1 hx];exact h2
 ·by_cases hlt:i<l.length
  ·rw[Zq0 hlt];exact q3 i hlt
  ·have:i=l.length:=by simp at hi;omega
   subst this;unfold badC;rw[List.getElem?_append_right (Nat.le_refl _),Nat.sub_self];simp only[List.getElem?_cons_zero];rw[List.take_left,Zk8,List.take_left' (by simp[dsOf]),h3,h4];rfl
theorem Zxp(l:List Crt)(c:Crt):(insL l c).length≤400:=by
 by_cases h:insE l c=0
 ·obtain⟨_,_,_,_,h4,e⟩:=Zgh h;rw[e];simp;omega
 ·unfold insL;rw[if_neg h];simp
theorem Znm{c:Crt}{vb vp vv:Value}(r1:RDigs h vb c.hdr.batches)(r2:RDigs h vp c.hdr.parents)(r3:RIs h vv c.voters):RMsg h (prfM c) (.slice none 0 0) (.slice none 0 0) (.slice none 0 0) (.slice none 0 0) vb vp vv :=
 ⟨RVec.nil _ _ _,RDigs.nil _,RDigs.nil _,RVec.nil _ _ _,r1,r2,r3⟩
theorem Zi2(i tb g off:Nat)(n:Nd)(c:Crt)(wr:Bool)(vb vp vv:Value)(o:Own)(w:World)(hl:Lim o w)(hi:i<5)(hN:NodeAt o w i tb g off n)(hT:Tabs (Zas o w))(rb:RDigs (Zas o w) vb c.hdr.batches)(rp:RDigs (Zas o w) vp c.hdr.parents)(rv:RIs (Zas o w) vv c.voters) :
 Calls Tryz.prog 112 #[.pointer (some ⟨g,off,none⟩),.agg #[.int .i64 c.hdr.author,.int .i64 c.hdr.round,vb,vp,vv],.bool wr] w fun e w'=>e=.returned (.bool (insert n c wr).2)∧∃o',NFr i tb g off o w o' w'∧NodeAt o' w' i tb g off (insert n c wr).1:=by
 obtain⟨hmk,⟨vtx,vba,vdi,vta,vda,vow,vmi,vvo,vtp,vou⟩,hS,hR⟩:=id hN;have hg:=hS.lt;obtain⟨bA,bc,rfl,hf1⟩:=id rb;obtain⟨pA,pc,rfl,hf2⟩:=id rp;obtain⟨vA,vc,rfl,hf3⟩:=id rv;clear hf1 hf2 hf3;have rda:=hR.da;obtain⟨daA,dac,hda,hf4⟩:=id rda;have hda:vda=.slice daA n.dag.length dac:=hda;subst hda;clear hf4;obtain⟨QE,hQE⟩:∃q,Hid (insE n.dag c=q):=⟨_,rfl⟩;obtain⟨QL,hQL⟩:∃q,Hid (insL n.dag c=q):=⟨_,rfl⟩;have hQl:Hid (QL.length≤400):=by show _≤_;rw[←hQL.out];exact Zxp _ _
 have hst:Hid (insert n c wr=if QE≠0 then(n,false)else if wr then(if Zfg n (prfM c)=0 then({ kept n (prfM c)with dag:=QL },true)else(n,false))else({ n with dag:=QL },true)):=by
  show _=_;unfold Fl.insert;rw[hQE.out,hQL.out]
 rw[hst.out];clear hst;have ho0:=hl.none w.heap.size (Nat.le_refl _)
 go_enter Tryz.func112,Tryz.ntmps112
 go_upto_region 1 with fail
 refine Zo fun W hk hsz hb=>?_
 have v1:=Zae hl hb;have l1:=Zam hl hb;have s7:=Zaa hb _ _ hS.nd7;simp only at s7;have rda1:=(rda.mono RCrt.mono v1).mono RCrt.mono (Zag _ _);have rb1:=rb.mono RDig.mono v1;have rp1:=rp.mono RDig.mono v1;have rv1:=rv.mono v1;have T1:=hT.mono v1;have N1:=hN.below hl hb;have F1:NFr i tb g off o w o W:=(NFr.refl hl).below hb;clear hS hR rda rb rp rv hT hN
 go_cut [7,8] (fun p e w'=>∃gb A5 c5,p=.pointer (some ⟨gb,0,none⟩)∧e=.int .i64 QE∧Blk w' gb 49 #[.slice A5 QL.length c5]∧Below W.heap.size W w'∧RCrts (View.from w'.cell? W.heap.size) (.slice A5 QL.length c5) QL∧W.heap.size≤gb)
 case first =>
  refine Zr [11] (.q 0 (.q 1 (.q 2 (.q 3 (.q 4 (.alt 5 (.q 6 (.q 7 (.q 8 (.l 9 (.l 10 (.qc 11 .nil)))))) 9 (.l 5 (.q 6 (.q 7 (.q 8 (.l 10 (.qc 11 .nil)))))))))))) fun W3 hS3=>?_
  repeat((first|refine pq (h:=⟨_,fun w' hS=>by(have h1:=Zaa hS _ _ s7;have hx:=hk.kept hS;have h2:=hx.cell 0;have h3:=hx.cell 1;have h4:=hx.cell 2;have h5:=hx.cell 3;have h6:=hx.cell 4;simp at h2 h3 h4 h5 h6;go_simp;exact rfl),?_⟩)|refine Zq ?_);simp only[sx])
  refine Zcl ?_ ?_
  ·refine Zd fun K hK=>?_
   try simp only[sy]
   go_simp;have q3:=Zaa hS3;refine(Zid _ n.dag c _ _ _ _ (rda1.mono RCrt.mono q3) ((rb1.mono RDig.mono (Zag _ _)).mono RDig.mono q3) ((rp1.mono RDig.mono (Zag _ _)).mono RDig.mono q3) ((rv1.mono (Zag _ _)).mono q3) ((T1.mono (Zag _ _)).mono q3)).mono ?_;rintro e w5 ⟨d5,rfl,hb6,od5⟩;rw[hQE.out];rw[hQL.out]at od5;have rd5:=od5.reads_from (bs:=88) RCrt.mono (by have:=hQl.out;omega);have hS5:=hS3.trans (hb6.mono hS3.size);obtain⟨A5,c5,rfl,hf5⟩:=id rd5;clear hf5;refine hK.out _ _ (hS5) fun hS=>?_
   clear hK K
   try simp only[sx]
   repeat(refine Zq ?_;simp only[sx])
   refine Zd fun K hK=>?_
   try simp only[sy]
   go_simp;have hn6:=Blk.new w5 49 #[.slice none 0 0];have hb66:=Zac w5 (.cells #[.slice none 0 0] 49);have hS6:=hS5.trans (hb66.mono hS5.size);have hgbW:=hS5.size;refine hK.out _ _ (hS6) fun hS=>?_
   clear hK K
   try simp only[sx]
   repeat(refine Zq ?_;simp only[sx])
   refine Zd fun K hK=>?_
   try simp only[sy]
   refine Zh 1 hn6 ?_;intro w7 hB7 hg7;have hS7:Below W.heap.size W w7:=Zab hS6 hS6.size hg7 (by intro k e;injection e;omega);have rd7:=(rd5.mono RCrt.mono (Za0 _ ((Zei hb66 (Nat.le_refl _)).trans (Zbn hg7)))).mono RCrt.mono (Zbm (b':=W.heap.size) hS3.size);refine hK.out _ _ (hS7) fun hS=>?_
   clear hK K
   try simp only[sx]
   repeat(refine Zq ?_;simp only[sx])
   refine Zah ?_
   go_wp2_with fail
   go_meet;exact⟨_,A5,c5,rfl,rfl,hB7,hS7,rd7,hgbW⟩
  ·refine Zd fun K hK=>?_
   try simp only[sy]
   go_simp;have hn6:=Blk.new W3 49 #[.slice none 0 0];have hb66:=Zac W3 (.cells #[.slice none 0 0] 49);have hS6:=hS3.trans (hb66.mono hS3.size);have hgbW:=hS3.size;refine hK.out _ _ (hS6) fun hS=>?_
   clear hK K
   try simp only[sx]
   repeat(refine Zq ?_;simp only[sx])
   refine Zd fun K hK=>?_
   try simp only[sy]
   go_simp;have q3:=Zaa hS6;refine(Zid _ n.dag c _ _ _ _ (rda1.mono RCrt.mono q3) ((rb1.mono RDig.mono (Zag _ _)).mono RDig.mono q3) ((rp1.mono RDig.mono (Zag _ _)).mono RDig.mono q3) ((rv1.mono (Zag _ _)).mono q3) ((T1.mono (Zag _ _)).mono q3)).mono ?_;rintro e w5 ⟨d5,rfl,hb6,od5⟩;rw[hQE.out];rw[hQL.out]at od5;have rd5:=od5.reads_from (bs:=88) RCrt.mono (by have:=hQl.out;omega);have hS5:=hS6.trans (hb6.mono hS6.size);have hn7:=hn6.kept hb6;have hz6:=hb6.size;simp at hz6;obtain⟨A5,c5,rfl,hf5⟩:=id rd5;clear hf5;refine hK.out _ _ (hS5) fun hS=>?_
   clear hK K
   try simp only[sx]
   repeat(refine Zq ?_;simp only[sx])
   refine Zd fun K hK=>?_
   try simp only[sy]
   refine Zh 1 hn7 ?_;intro w7 hB7 hg7;have hS7:Below W.heap.size W w7:=Zab hS5 hS5.size hg7 (by intro k e;injection e;omega);have rd7:=(rd5.mono RCrt.mono (Zi5 hg7 (by simp))).mono RCrt.mono (Zbm (b':=W.heap.size) hS6.size);refine hK.out _ _ (hS7) fun hS=>?_
   clear hK K
   try simp only[sx]
   repeat(refine Zq ?_;simp only[sx])
   refine Zah ?_
   go_wp2_with fail
   go_meet;exact⟨_,A5,c5,rfl,rfl,hB7,hS7,rd7,hgbW⟩
 case rest =>
  obtain⟨gb,A5,c5,rfl,rfl,hB,hbc,rd,hgbW⟩:=hcut;have vc:=Zae l1 hbc;have lc:=Zam l1 hbc;have Nc:=N1.below l1 hbc;have Fc:=F1.below hbc;have rh:=rd.mono RCrt.mono (Zby l1);have rbc:=rb1.mono RDig.mono vc;have rpc:=rp1.mono RDig.mono vc;have rvc:=rv1.mono vc;have hkc:=hk.kept hbc;have hgb0:o gb=none:=l1.none gb hgbW;clear s7 rda1 rb1 rp1 rv1 T1 N1 F1 hk
  by_cases hE:QE=0
  ·subst hE;have b0:=hB.cell 0;simp at b0;cases wr
   ·have N4:=Nc;have r4:=rh;have l4:=lc;have F4:=Fc;clear Nc rh lc Fc;obtain⟨hm4,⟨ytx,yba,ydi,yta,yda,yow,ymi,yvo,ytp,you⟩,S4,R4⟩:=N4
    go_wp2_with (refine Sec.store S4 (i:=7) [.slice A5 QL.length c5] (show 7+1≤15 by decide) rfl rfl rfl rfl (by kernel_rfl) rfl rfl ?_)
    intro w6 S6 hg6 h6;have R6:=(R4.setDa r4).fr (Zaq l4 hg6 hm4) (fun k e=>by injection e;omega);have F6:=F4.store hm4 hg6 h6 (show 7+1≤15 by decide);go_wp2;go_ret;exact⟨rfl,o,F6,hm4,_,S6.putDa,R6⟩
   ·have g0:=hkc.cell 0;have g1:=hkc.cell 1;have g2:=hkc.cell 2;have g3:=hkc.cell 3;have g4:=hkc.cell 4;simp at g0 g1 g2 g3 g4
    go_wp2_with fail
    refine(Zj0 i tb g off n (prfM c) _ _ _ _ _ _ _ o _ lc hi Nc (Znm rbc rpc rvc) (fun s hs=>by cases hs)).mono ?_;rintro e w4 ⟨rfl,o4,F34,N4⟩;have hkp:Fl.keep n (prfM c)=if Zfg n (prfM c)=0 then(kept n (prfM c),true)else(n,false):=rfl
    by_cases h4:Zfg n (prfM c)=0
    ·rw[hkp,if_pos h4]at N4⊢;have F4:=Fc.trans F34;have r4:=rh.mono RCrt.mono F34.fr.view;have l4:=F34.fr.lim;have b0:=(Za3 hB F34.fr hgb0).cell 0;simp at b0;have H4:=Lib.hid h4;clear Nc rh lc Fc F34 hkp h4 g0 g1 g2 g3 g4;obtain⟨hm4,⟨ytx,yba,ydi,yta,yda,yow,ymi,yvo,ytp,you⟩,S4,R4⟩:=N4
     go_wp2_with (refine Sec.store S4 (i:=7) [.slice A5 QL.length c5] (show 7+1≤15 by decide) rfl rfl rfl rfl (by kernel_rfl) rfl rfl ?_)
     intro w6 S6 hg6 h6;have R6:=(R4.setDa r4).fr (Zaq l4 hg6 hm4) (fun k e=>by injection e;omega);have F6:=F4.store hm4 hg6 h6 (show 7+1≤15 by decide);go_wp2;go_ret;simp only[H4.out,if_true];exact⟨rfl,o4,F6,hm4,_,S6.putDa,R6⟩
    ·rw[hkp,if_neg h4]at N4⊢;have H4:=Lib.hid h4;clear hkp;go_wp2;go_ret
     first
      |exact⟨rfl,o4,Fc.trans F34,N4⟩
      |(simp only[h4,if_false];exact⟨rfl,o4,Fc.trans F34,N4⟩)
  ·have hEb:(QE==0)=false:=by simpa using hE
   go_wp2;go_ret
   first|exact⟨rfl,o,Fc,Nc⟩|(simp only[hE,ne_eq,not_false_eq_true,if_true];exact⟨rfl,o,Fc,Nc⟩)
theorem Ztm(cs:List Value)(x:Crt)(a r:Int)(ga gr:Nat)(w:World)(hca:w.cell? ⟨ga,0,none⟩=some (.int .i64 a))(hcr:w.cell? ⟨gr,0,none⟩=some (.int .i64 r))(hx:RCrt w.cell? cs x) :
 Calls Tryz.prog 174 (#[.agg cs.toArray]++#[.pointer (some ⟨ga,0,none⟩),.pointer (some ⟨gr,0,none⟩)]) w fun e w'=>e=.returned (.bool (Zew a r x))∧Below w.heap.size w w':=by
 obtain⟨ub,up,uv,rfl,_,_,_⟩:=hx;show Calls Tryz.prog 174 #[.agg #[.int .i64 x.hdr.author,.int .i64 x.hdr.round,ub,up,uv],.pointer (some ⟨ga,0,none⟩),.pointer (some ⟨gr,0,none⟩)] w _;have hbb:=Zac w (.cells #[.int .i64 x.hdr.author,.int .i64 x.hdr.round,ub,up,uv] 64);have g0:=Zaa hbb _ _ hca;have g1:=Zaa hbb _ _ hcr;have He:∀q,(x.hdr.author==a&&x.hdr.round==r)=q→Hid (Zew a r x=q):=fun q h=>h
 clear hca hcr;generalize x.hdr.author=x0 at He hbb g0 g1⊢;generalize x.hdr.round=y0 at He hbb g0 g1⊢
 by_cases h1:x0=a
 ·by_cases h2:y0=r
  ·have Hb:=He true (by simp[h1,h2]);clear He;subst h1 h2
   go_enter Tryz.func174,Tryz.ntmps174
   go_wp2;go_ret;exact⟨Zap Hb.out.symm,hbb⟩
  ·have Hb:=He false (by simp[h2]);clear He;subst h1
   go_enter Tryz.func174,Tryz.ntmps174
   go_wp2;go_ret;exact⟨Zap (by rw[Hb.out];simp[h2]),hbb⟩
 ·have Hb:=He false (by simp[h1]);clear He
  go_enter Tryz.func174,Tryz.ntmps174
  go_wp2;go_ret;exact⟨Zap Hb.out.symm,hbb⟩
theorem Zel(i tb g off:Nat)(n:Nd)(a r:Int)(o:Own)(w:World)(hN:NodeAt o w i tb g off n) :
 Calls Tryz.prog 145 #[.pointer (some ⟨g,off,none⟩),.int .i64 a,.int .i64 r] w fun e w'=>e=.returned (.bool (Zd5 n a r))∧Below w.heap.size w w':=by
 obtain⟨hmk,⟨vtx,vba,vdi,vta,vda,vow,vmi,vvo,vtp,vou⟩,hS,hR⟩:=hN;have rda:=hR.da.mono RCrt.mono (Zag o w);have hbb:=(Zac w (.cells #[.int .i64 a] 3)).trans ((Zac (w.alloc (.cells #[.int .i64 a] 3)) (.cells #[.int .i64 r] 3)).mono (by simp));have hk1:=(Blk.new w 3 #[.int .i64 a]).alloc (.cells #[.int .i64 r] 3);have hk2:=Blk.new (w.alloc (.cells #[.int .i64 a] 3)) 3 #[.int .i64 r];have c1:((w.alloc (.cells #[.int .i64 a] 3)).alloc (.cells #[.int .i64 r] 3)).cell? ⟨w.heap.size,0,none⟩=some (.int .i64 a):=hk1.cell 0
 have c2:((w.alloc (.cells #[.int .i64 a] 3)).alloc (.cells #[.int .i64 r] 3)).cell? ⟨w.heap.size+1,0,none⟩=some (.int .i64 r):=by
  have:=hk2.cell 0;rw[show(w.alloc (.cells #[.int .i64 a] 3)).heap.size=w.heap.size+1 by simp]at this;exact this
 have s7:=Zaa hbb _ _ hS.nd7;simp only at s7;have rda1:=rda.mono RCrt.mono (Zaa hbb);have he:Hid (Zd5 n a r=n.dag.any (Zew a r)):=rfl;rw[he.out];clear hS hR rda hk1 hk2 he
 go_enter Tryz.func145,Tryz.ntmps145
 go_wp2_with fail
 refine(Zhl 174 #[.pointer (some ⟨w.heap.size,0,none⟩),.pointer (some ⟨w.heap.size+1,0,none⟩)] (Zew a r) (Zdz Tryz.func174 (by kernel_rfl) rfl) _ n.dag _ rda1 (fun W cs x hW hx=>Ztm cs x a r _ _ W (Zaa hW _ _ c1) (Zaa hW _ _ c2) hx)).mono ?_;rintro e w1 ⟨rfl,hb1⟩;have hbl:=hbb.trans (hb1.mono hbb.size);obtain⟨q,hq⟩:∃q,Hid (n.dag.any (Zew a r)=q):=⟨_,rfl⟩;rw[hq.out];clear c1 c2 s7 rda1;go_wp2;go_ret;exact⟨Zap hq.out.symm,hbl⟩
structure SgAt (o:Own) (w:World) (gf:Nat) (rogue:Int) (signs:List Sign):Prop where
 mark:o gf=some (8,0)
 rogue:Sec w gf 0 [.int .i64 rogue]
 signs:∃vs,Sec w gf 61 [vs]∧RSigns (Zas o w) vs signs
section
variable {o o':Own} {w w':World} {gf:Nat} {rogue:Int} {signs:List Sign} {i off:Nat} {T:Nat×Nat→Prop}
theorem SgAt.fr(h:SgAt o w gf rogue signs)(f:Fr T o w o' w')(h8:¬T (8,0)):SgAt o' w' gf rogue signs:=by
 obtain⟨vs,h1,h2⟩:=h.signs;exact⟨Zb5 h.rogue.lt f h.mark h8,h.rogue.fr f h.mark h8,vs,h1.fr f h.mark h8,h2.mono RSign.mono f.view⟩
theorem SgAt.below(h:SgAt o w gf rogue signs)(hl:Lim o w)(hb:Below w.heap.size w w'):SgAt o w' gf rogue signs:=h.fr (.of_below (T:=fun _=>False) hl hb) (fun h=>h)
theorem SgAt.node(h:SgAt o w gf rogue signs)(f:NFr i 0 gf off o w o' w')(hm:o' gf=some (8,0))(h1:1≤off)(h2:off+15≤61):SgAt o' w' gf rogue signs:=by
 obtain⟨vs,q1,q2⟩:=h.signs;exact⟨hm,h.rogue.only f.only (.inl (by simp;omega)),vs,q1.only f.only (.inr (by omega)),q2.mono RSign.mono f.fr.view⟩
end
theorem Zk4(gf:Nat)(rogue:Int)(signs:List Sign)(v:Int)(s:Slot)(sd:Value)(o:Own)(w:World)(hG:SgAt o w gf rogue signs)(hsd:Zao w.cell? sd s.digest) :
 Calls Tryz.prog 141 #[.pointer (some ⟨gf,0,none⟩),.int .i64 v,.agg #[.int .i64 s.author,.int .i64 s.round,sd]] w fun e w'=>e=.returned (.bool (signed signs rogue v s))∧Below w.heap.size w w':=by
 obtain⟨hmk,hr,vs,hs,rs⟩:=hG;obtain⟨sA,sc,rfl,hf⟩:=id hsd;clear hf;have hbb:=Zac w (.cells #[.int .i64 s.author,.int .i64 s.round,.slice sA s.digest.length sc] 61);have hk:=Blk.new w 61 #[.int .i64 s.author,.int .i64 s.round,.slice sA s.digest.length sc];have c0:=Zaa hbb _ _ (hr.cell (j:=0) (by simp));have c61:=Zaa hbb _ _ (hs.cell (j:=0) (by simp));simp at c0 c61;have rs1:=(rs.mono RSign.mono (Zag o w)).mono RSign.mono (Zaa hbb);have rd1:=hsd.mono (Zaa hbb);obtain⟨W,hW⟩:∃W,W=w.alloc (.cells #[.int .i64 s.author,.int .i64 s.round,.slice sA s.digest.length sc] 61):=⟨_,rfl⟩
 go_enter Tryz.func141,Tryz.ntmps141
 go_wp2_with fail
 rw[←hW]at hbb hk c0 c61 rs1 rd1⊢;clear hW hr hs rs hsd;obtain⟨q,hq⟩:∃q,Hid (signed signs rogue v s=q):=⟨_,rfl⟩;refine Zr [16] (.q 0 (.q 1 (.q 2 (.q 3 (.q 4 (.q 5 (.q 6 (.q 7 (.q 8 (.q 9 (.q 10 (.l 11 (.q 12 (.q 13 (.q 14 (.q 15 (.qc 16 .nil))))))))))))))))) fun W3 hS3=>?_
 repeat((first|refine pq (h:=⟨_,fun w' hS=>by(have h0:=Zaa hS _ _ c0;have h61:=Zaa hS _ _ c61;have hx:=hk.kept hS;have h2:=hx.cell 0;have h3:=hx.cell 1;have h4:=hx.cell 2;simp at h2 h3 h4;go_simp;exact rfl),?_⟩)|refine Zq ?_);simp only[sx])
 refine Zd fun K hK=>?_
 try simp only[sy]
 go_simp;refine(Zsk _ signs rogue ⟨v,s⟩ _ _ (rs1.mono RSign.mono (Zaa hS3)) (rd1.mono (Zaa hS3))).mono ?_;rintro e w5 ⟨rfl,hb5⟩;have hS5:=hS3.trans (hb5.mono hS3.size);rw[show Zir signs rogue ⟨v,s⟩=q from hq.out];refine hK.out _ _ (hS5) fun hS=>?_
 clear hK K
 try simp only[sx]
 repeat(refine Zq ?_;simp only[sx])
 refine Zah ?_;go_wp2;go_ret;exact⟨Zap hq.out.symm,hbb.trans (hS5.mono hbb.size)⟩
end Fl
end Go.Proofs.YtinibgklgehdpaaGreatDoor
