/- A part of what the last text stands on. -/
import Derived.Test.YtbcpbnfojfiekaaGreatDoorK22
namespace Go.Proofs.YtbcpbnfojfiekaaGreatDoor
open Go.ChangeShapes Go.WideShapes Go.ChangeAt Go.RowKit Go.Proofs.Tryz Qa Qb Qc
set_option linter.all false
set_option maxHeartbeats 20000000
set_option maxRecDepth 100000
variable{i j:Nat}{m:Msg}{n:Fl.Nd}{ms:List Msg}{signs:List Sign}{l:List Crt}
namespace Fl
theorem digsF_zero{l:List (List UInt8)}(h:Ze3 l=0):∀k (b:k<l.length),l[k].length=32:=by
 intro k b;unfold Ze3 at h;split at h
 ·rename_i i hi;have:=List.find?_some hi;simp[h]at this
 ·rename_i hn;rw[List.find?_eq_none]at hn;have a:=hn k (List.mem_range.2 b);simp at a;unfold Zjt at a;rw[Zp b]at a;simp only at a;split at a
  ·assumption
  ·cases a
theorem Zpq{a b:List UInt8}{n:Nat}(h:a.length=n):tkB n (a++b,false)=a∧tkS n (a++b,false)=(b,false):=by
 subst h;unfold tkB tkS;have c:decide ((a++b).length<a.length)=false:=by simp
 simp only[c,Bool.or_self,Bool.false_eq_true,if_false];simp
theorem Zmg{n:Nat}(h:n<256):(Zaq n).toNat=n:=by
 unfold Zaq;have a:((n:Int)%256).toNat=n:=by omega
 rw[a,UInt8.toNat_ofNat'];omega
theorem Zyn{z:Int}(a:0≤z)(h:z<256):((Zaq z).toNat:Int)=z:=by
 obtain⟨n,rfl⟩:=Int.eq_ofNat_of_zero_le a;rw[Zmg (by omega)]
theorem Zee{z:Int}(c:0≤z)(h:z<256)(b:List UInt8):(nmV 1 (Zaq z::b,false):Int)=z∧tkS 1 (Zaq z::b,false)=(b,false):=by
 obtain⟨d,e⟩:=Zpq (a:=[Zaq z]) (b:=b) (n:=1) rfl;refine⟨?_,e⟩;show(nmV 1 ([Zaq z]++b,false):Int)=z;unfold nmV;rw[d];simp only[beN,List.foldl_cons,List.foldl_nil];have:=Zyn c h;omega
theorem byteI_mod(z:Int):((Zaq z).toNat:Int)=z%256:=by
 unfold Zaq;rw[UInt8.toNat_ofNat'];have a:0≤z%256:=Int.emod_nonneg _ (by decide);have b:z%256<256:=Int.emod_lt_of_pos _ (by decide);omega
theorem Zos{z:Int}(e:0≤z)(h:z<16777216)(b:List UInt8):(nmV 3 (Zca z++b,false):Int)=z∧tkS 3 (Zca z++b,false)=(b,false):=by
 obtain⟨c,d⟩:=Zpq (a:=Zca z) (b:=b) (n:=3) rfl;refine⟨?_,d⟩;unfold nmV;rw[c];simp only[Zca,beN,List.foldl_cons,List.foldl_nil];have q1:=byteI_mod (z/65536);have q2:=byteI_mod (z/256);have q3:=byteI_mod z;omega
theorem digs_it(l:List (List UInt8))(e:∀x∈l,x.length=32)(b:List UInt8):∀k,k≤l.length→it Zk8 k ([],(l.flatten++b,false))=(l.take k,((l.drop k).flatten++b,false)):=by
 intro k
 induction k with
 |zero=>intro _;rfl
 |succ k ih =>
  intro g;show Zk8 (it Zk8 k _)=_;rw[ih (by omega)];have hd:l.drop k=l[k]::l.drop (k+1):=List.drop_eq_getElem_cons (by omega);have c:=e l[k] (List.getElem_mem (by omega));obtain⟨d,f⟩:=Zpq (a:=l[k]) (b:=(l.drop (k+1)).flatten++b) c;unfold Zk8;rw[hd,List.flatten_cons,List.append_assoc];rw[if_neg (by simp)];simp only;rw[d,f,Zn (by omega)]
theorem Zqz(l:List (List UInt8))(d:∀x∈l,x.length=32)(hn:l.length<256)(b:List UInt8):Zkh (Zeg l++b,false)=(l,(b,false)):=by
 unfold Zkh Zeg;obtain⟨e,c⟩:=Zee (z:=l.length) (by omega) (by omega) (l.flatten++b);simp only[List.cons_append];have a:nmV 1 (Zaq (l.length:Int)::(l.flatten++b),false)=l.length:=by omega
 rw[a,c,digs_it l d b l.length (Za _)];simp
theorem Zst(s:ByteArray):bstr (Zb9 s)=s:=by
 unfold bstr Zb9;cases s;simp
theorem txs_it(l:List ByteArray)(f:∀x∈l,x.size<256)(b:List UInt8):∀k,k≤l.length→it Zhj k ([],(Zbg l++b,false))=(l.take k,(Zbg (l.drop k)++b,false)):=by
 intro k
 induction k with
 |zero=>intro _;rfl
 |succ k ih =>
  intro i;show Zhj (it Zhj k _)=_;rw[ih (by omega)];have hd:l.drop k=l[k]::l.drop (k+1):=List.drop_eq_getElem_cons (by omega);have j:=f l[k] (List.getElem_mem (by omega))
  have ht:Zbg (l.drop k)++b=Zaq (l[k].size:Nat)::(Zb9 l[k]++(Zbg (l.drop (k+1))++b)):=by
   rw[hd];simp only[Zbg,List.map_cons,List.flatten_cons,List.cons_append,List.append_assoc]
  obtain⟨m,g⟩:=Zee (z:=(l[k].size:Nat)) (by omega) (by omega) (Zb9 l[k]++(Zbg (l.drop (k+1))++b));have c:nmV 1 (Zaq (l[k].size:Nat)::(Zb9 l[k]++(Zbg (l.drop (k+1))++b)),false)=l[k].size:=by omega
  obtain⟨e,d⟩:=Zpq (a:=Zb9 l[k]) (b:=Zbg (l.drop (k+1))++b) (Zci _);unfold Zhj;rw[ht,if_neg (by simp)];simp only;rw[c,g,e,d,Zst,Zn (by omega)]
theorem Zzc(l:List ByteArray)(d:∀x∈l,x.size<256)(hn:l.length<256)(b:List UInt8):txsR (Zaq (l.length:Nat)::(Zbg l++b),false)=(l,(b,false)):=by
 unfold txsR;obtain⟨e,c⟩:=Zee (z:=l.length) (by omega) (by omega) (Zbg l++b);have a:nmV 1 (Zaq (l.length:Int)::(Zbg l++b),false)=l.length:=by omega
 rw[a,c,txs_it l d b l.length (Za _)];simp[Zbg]
theorem vots_it(l:List Int)(d:∀x∈l,0≤x∧x<256)(b:List UInt8):∀k,k≤l.length→it Zk7 k ([],(l.map Zaq++b,false))=(l.take k,((l.drop k).map Zaq++b,false)):=by
 intro k
 induction k with
 |zero=>intro _;rfl
 |succ k ih =>
  intro f;show Zk7 (it Zk7 k _)=_;rw[ih (by omega)];have hd:l.drop k=l[k]::l.drop (k+1):=List.drop_eq_getElem_cons (by omega);have a:=d l[k] (List.getElem_mem (by omega));obtain⟨c,e⟩:=Zee a.1 a.2 ((l.drop (k+1)).map Zaq++b);unfold Zk7;rw[hd,List.map_cons,List.cons_append,if_neg (by simp)];simp only;rw[c,e,Zn (by omega)]
theorem Zv3(l:List Int)(d:∀x∈l,0≤x∧x<256)(hn:l.length<256)(b:List UInt8):Zv4 (Zaq (l.length:Nat)::(l.map Zaq++b),false)=(l,(b,false)):=by
 unfold Zv4;obtain⟨e,c⟩:=Zee (z:=l.length) (by omega) (by omega) (l.map Zaq++b);have a:nmV 1 (Zaq (l.length:Int)::(l.map Zaq++b),false)=l.length:=by omega
 rw[a,c,vots_it l d b l.length (Za _)];simp
theorem Zbj{n lo hi:Int}:inB n lo hi=true↔lo≤n∧n≤hi:=by unfold inB;simp
theorem batchF_zero{a n:Int}{l:List ByteArray}(h:Zcs a n l=0):(0≤a∧a≤3)∧(1≤n∧n≤1048576)∧1≤l.length∧l.length≤4∧∀s∈l,1≤s.size∧s.size≤20:=by
 unfold Zcs at h;split at h
 ·cases h
 ·rename_i b;simp only[Bool.or_eq_true,Bool.not_eq_true',not_or,Bool.not_eq_false]at b;split at h
  ·cases h
  ·split at h
   ·rename_i e d;refine⟨Zbj.1 b.1,Zbj.1 b.2,by omega,by omega,fun s c=>?_⟩;have:=List.all_eq_true.1 d s c;simpa[txOk]using this
   ·cases h
theorem batR_app{x:Bat}(h:Zcs x.author x.number x.txs=0)(b:List UInt8):batR (Zfn x.author x.number x.txs++b,false)=(x,(b,false)):=by
 obtain⟨a,g,f,e,c⟩:=batchF_zero h;unfold batR Zfn;simp only[List.cons_append,List.append_assoc];obtain⟨p1,p2⟩:=Zee a.1 (by omega:x.author<256) (Zca x.number++(Zaq (x.txs.length:Nat)::(Zbg x.txs++b)));obtain⟨q1,q2⟩:=Zos (z:=x.number) (by omega) (by omega) (Zaq (x.txs.length:Nat)::(Zbg x.txs++b));have r:=Zzc x.txs (fun s d=>by have:=c s d;omega) (by omega) b;simp only[List.nil_append]at *;rw[p2,q2,r,p1,q1]
theorem headF_zero{a n:Int}{b p:List (List UInt8)}(h:Zb5 a n b p=0):(0≤a∧a≤3)∧(1≤n∧n≤1048576)∧b.length≤3∧p.length≤4∧(∀x∈b,x.length=32)∧(∀x∈p,x.length=32):=by
 unfold Zb5 at h;split at h
 ·rename_i d;simp only[Bool.and_eq_true]at d;split at h
  ·cases h
  ·rename_i g;split at h
   ·rename_i f;exact absurd h f
   ·rename_i f;split at h
    ·rename_i e;exact absurd h e
    ·rename_i e;refine⟨Zbj.1 d.1,Zbj.1 d.2,by omega,by omega,fun x c=>?_,fun x c=>?_⟩
     ·obtain⟨i,hi,rfl⟩:=List.getElem_of_mem c;exact digsF_zero (Classical.not_not.1 f) i hi
     ·obtain⟨i,hi,rfl⟩:=List.getElem_of_mem c;exact digsF_zero (Classical.not_not.1 e) i hi
 ·cases h
theorem Ztl{x:Hdr}(h:Zb5 x.author x.round x.batches x.parents=0)(b:List UInt8):hdrR (Zcd x.author x.round x.batches x.parents++b,false)=(x,(b,false)):=by
 obtain⟨a,g,f,e,d,c⟩:=headF_zero h;unfold hdrR Zcd;simp only[List.cons_append,List.append_assoc];obtain⟨p1,p2⟩:=Zee a.1 (by omega:x.author<256) (Zca x.round++(Zeg x.batches++(Zeg x.parents++b)));obtain⟨q1,q2⟩:=Zos (z:=x.round) (by omega) (by omega) (Zeg x.batches++(Zeg x.parents++b));have r1:=Zqz x.batches d (by omega) (Zeg x.parents++b);have r2:=Zqz x.parents c (by omega) b;rw[p2,q2,r1,r2,p1,q1]
theorem certF_zero{a n:Int}{b p:List (List UInt8)}{vs:List Int}(h:Zhk a n b p vs=0):Zb5 a n b p=0∧3≤vs.length∧vs.length≤4∧∀i (hi:i<vs.length),Zib vs i=0:=by
 unfold Zhk at h;split at h
 ·rename_i c;exact absurd h c
 ·rename_i c;split at h
  ·cases h
  ·rename_i g;split at h
   ·rename_i e;exact absurd h e
   ·rename_i e;split at h
    ·cases h
    ·refine⟨Classical.not_not.1 c,by omega,by omega,fun i hi=>?_⟩;have d:=Classical.not_not.1 e;unfold Zj9 at d;split at d
     ·rename_i j f;have:=List.find?_some f;simp[d]at this
     ·rename_i hn;rw[List.find?_eq_none]at hn;have:=hn i (List.mem_range.2 hi);simpa using this
theorem Zub{vs:List Int}(hi:i<vs.length)(h:Zib vs i=0):0≤vs[i]∧vs[i]≤3∧∀j,i=j+1→∀(b:j<vs.length),vs[j]<vs[i]:=by
 unfold Zib at h;rw[Zp hi]at h;simp only at h;split at h
 ·rename_i c;obtain⟨e,d⟩:=Zbj.1 c;refine⟨e,d,fun j b a=>?_⟩;subst b;simp only at h;rw[Zp a]at h;simp only at h;split at h
  ·cases h
  ·omega
 ·cases h
theorem crtR_app{x:Crt}(h:Zhk x.hdr.author x.hdr.round x.hdr.batches x.hdr.parents x.voters=0)(b:List UInt8) :
 crtR (Zcd x.hdr.author x.hdr.round x.hdr.batches x.hdr.parents++(Zaq (x.voters.length:Nat)::(x.voters.map Zaq++b)),false)=(x,(b,false)):=by
 obtain⟨c,f,e,d⟩:=certF_zero h;unfold crtR;have r1:=Ztl c (Zaq (x.voters.length:Nat)::(x.voters.map Zaq++b))
 have r2:=Zv3 x.voters (fun v a=>by
  obtain⟨i,hi,rfl⟩:=List.getElem_of_mem a;have:=Zub hi (d i hi)
  omega) (by omega) b
 rw[r1,r2]
theorem slotF_zero{a r:Int}{n:Nat}(h:Zgm a r n=0):(0≤a∧a≤3)∧(1≤r∧r≤1048576)∧n=32:=by
 unfold Zgm at h;split at h
 ·cases h
 ·rename_i b;simp only[Bool.or_eq_true,Bool.not_eq_true',not_or,Bool.not_eq_false]at b;split at h
  ·cases h
  ·rename_i c;exact⟨Zbj.1 b.1,Zbj.1 b.2,Classical.not_not.1 c⟩
theorem Zzp{x:Slot}(h:Zgm x.author x.round x.digest.length=0)(b:List UInt8):sltR (Zaq x.author::(Zca x.round++(x.digest++b)),false)=(x,(b,false)):=by
 obtain⟨c,e,d⟩:=slotF_zero h;unfold sltR;obtain⟨p1,p2⟩:=Zee c.1 (by omega:x.author<256) (Zca x.round++(x.digest++b));obtain⟨q1,q2⟩:=Zos (z:=x.round) (by omega) (by omega) (x.digest++b);obtain⟨r1,r2⟩:=Zpq (a:=x.digest) (b:=b) d;rw[p2,q2,r1,r2,p1,q1]
theorem msgF_zero(h:msgF m=0):(0≤m.src∧m.src≤3)∧(0≤m.dst∧m.dst≤3)∧(1≤m.kind∧m.kind≤5)∧Zea m=0∧Zlz m=false:=by
 unfold msgF at h;split at h
 ·rename_i a;simp only[Bool.and_eq_true]at a;split at h
  ·rename_i c;split at h
   ·rename_i b;exact absurd h b
   ·rename_i b;split at h
    ·cases h
    ·rename_i d;exact⟨Zbj.1 a.1,Zbj.1 a.2,Zbj.1 c,Classical.not_not.1 b,by simpa using d⟩
  ·cases h
 ·cases h
theorem Zpf{x:Bat}(h:Zml x=false):x=bat0:=by
 obtain⟨a,n,l⟩:=x;simp[Zml]at h;simp[bat0,h]
theorem Zfz{x:Hdr}(h:Zef x.author x.round x.batches x.parents=true):x=hdr0:=by
 obtain⟨a,n,l,p⟩:=x;simp[Zef]at h;simp[hdr0,h]
theorem Zoj{x:Slot}(h:Zla x=false):x=slt0:=by
 obtain⟨a,n,l⟩:=x;simp[Zla]at h;simp[slt0,h]
theorem Zo7{x:Crt}(h:Zl6 x=false):x=crt0:=by
 obtain⟨hd,vs⟩:=x;simp[Zl6]at h;have:=Zfz (x:=hd) h.1;simp[crt0,this,h.2]
theorem msgR_app(h:msgF m=0):msgR (msgB m)=(m,([],false)):=by
 obtain⟨d,f,e,a,b⟩:=msgF_zero h;obtain⟨src,dst,kind,bat,hdr,slt,crt,round⟩:=m;simp only at d f e;unfold msgR msgB;obtain⟨p1,p2⟩:=Zee (z:=kind) (by omega) (by omega) (Zaq src::Zaq dst::Zdo ⟨src,dst,kind,bat,hdr,slt,crt,round⟩);obtain⟨q1,q2⟩:=Zee (z:=src) (by omega) (by omega) (Zaq dst::Zdo ⟨src,dst,kind,bat,hdr,slt,crt,round⟩);obtain⟨r1,r2⟩:=Zee (z:=dst) (by omega) (by omega) (Zdo ⟨src,dst,kind,bat,hdr,slt,crt,round⟩);simp only[List.cons_append,List.nil_append];rw[p2,q2,r2,p1,q1,r1];unfold Zlz at b;unfold Zea at a;unfold bodR Zdo;simp only[Bool.or_eq_false_iff,Bool.and_eq_false_iff,decide_eq_false_iff_not,Decidable.not_not,Bool.not_eq_false',ne_eq]at b;simp only at a b⊢;obtain⟨⟨⟨⟨e1,e2⟩,e3⟩,e4⟩,e5⟩:=b;have c:kind=1∨kind=2∨kind=3∨kind=4∨kind=5:=by omega
 rcases c with rfl|rfl|rfl|rfl|rfl
 ·simp at a e2 e3 e4 e5;have q:=batR_app (x:=bat) a [];simp only[List.append_nil]at q;simp[q,Zfz e2,Zoj e3,Zo7 e4,e5]
 ·simp at a e1 e3 e4 e5;have q:=Ztl (x:=hdr) a [];simp only[List.append_nil]at q;simp[q,Zpf e1,Zoj e3,Zo7 e4,e5]
 ·simp at a e1 e2 e4 e5;have q:=Zzp (x:=slt) a [];simp only[List.append_nil]at q;simp[q,Zpf e1,Zfz e2,Zo7 e4,e5]
 ·simp at a e1 e2 e3 e5;have q:=crtR_app (x:=crt) a [];simp only[List.append_nil]at q;simp[q,Zpf e1,Zfz e2,Zoj e3,e5]
 ·simp at a e1 e2 e3 e4;obtain⟨q0,q9⟩:=Zbj.1 a;obtain⟨q1,q2⟩:=Zos (z:=round) (by omega) (by omega) [];simp only[List.append_nil]at q1 q2;simp[q1,q2,Zpf e1,Zfz e2,Zoj e3,Zo7 e4]
theorem Zto(l:List (List UInt8))(h:∀x∈l,x.length=32):l.flatten.length=32*l.length:=by
 induction l with
 |nil=>rfl
 |cons x l ih =>
  rw[List.flatten_cons,Zl,ih (fun y a=>h y (by simp[a])),h x (by simp),Zu];omega
theorem texts_len(l:List ByteArray)(h:∀s∈l,s.size≤20):(Zbg l).length≤21*l.length:=by
 induction l with
 |nil=>exact Za _
 |cons s l ih =>
  have:=ih (fun y a=>h y (by simp[a]));have b:=h s (by simp)
  have e:(Zbg (s::l)).length=1+s.size+(Zbg l).length:=by
   simp[Zbg,Zci];omega
  rw[e,Zu];omega
theorem headerB_len{a n:Int}{b p:List (List UInt8)}(h:Zb5 a n b p=0):(Zcd a n b p).length≤240:=by
 obtain⟨e,i,g,f,d,c⟩:=headF_zero h;unfold Zcd Zeg Zca;simp only[Zl,Zu,List.length_nil,Zto _ d,Zto _ c];omega
theorem msgB_len(h:msgF m=0):3≤(msgB m).length∧(msgB m).length≤255:=by
 obtain⟨d,g,f,b,e⟩:=msgF_zero h;unfold msgB;refine⟨by simp,?_⟩
 suffices q:(Zdo m).length≤252 by simp;omega
 unfold Zea at b;unfold Zdo;split
 ·rename_i a;rw[if_pos a]at b;obtain⟨_,_,_,q4,q5⟩:=batchF_zero b;have:=texts_len m.bat.txs (fun s c=>(q5 s c).2);simp only[Zfn,Zca,Zl,Zu,List.length_nil];omega
 ·rename_i a;rw[if_neg a]at b;split
  ·rename_i a;rw[if_pos a]at b;have:=headerB_len b;omega
  ·rename_i a;rw[if_neg a]at b;split
   ·rename_i a;rw[if_pos a]at b;obtain⟨_,_,q⟩:=slotF_zero b;simp only[Zca,Zl,Zu,List.length_nil];omega
   ·rename_i a;rw[if_neg a]at b;split
    ·rename_i a;rw[if_pos a]at b;obtain⟨q1,q2,q3,_⟩:=certF_zero b;have:=headerB_len q1;simp only[Zl,Zu,List.length_map];omega
    ·simp[Zca]
theorem Zya(h:msgF m=0):decE (msgB m)=0∧decM (msgB m)=m:=by
 have f:=msgB_len h;have b:=msgR_app h;obtain⟨d,g,e,_⟩:=msgF_zero h;have c:(nmV 1 (msgB m,false):Int)=m.kind:=(Zee (z:=m.kind) (by omega) (by omega) (Zaq m.src::Zaq m.dst::Zdo m)).1
 have a:decE (msgB m)=0:=by
  unfold decE;rw[if_neg (by omega),if_neg (by omega),if_neg (by omega),b];simp[h]
 refine⟨a,?_⟩;unfold decM;rw[if_pos a,b]
def Za2(ms:List Msg):List UInt8:=(ms.map appF).flatten
def Good(ms:List Msg):Prop:=∀m∈ms,recF m=0
theorem Zfw(h:recF m=0):msgF m=0∧m.src=0∧m.dst=0∧m.kind≠5:=by
 unfold recF at h;split at h
 ·rename_i b;exact absurd h b
 ·rename_i b;split at h
  ·cases h
  ·rename_i a;simp only[not_or,Decidable.not_not,ne_eq]at a;exact⟨Classical.not_not.1 b,a.1,a.2.1,a.2.2⟩
theorem Zjg(m:Msg)(ms:List Msg):Za2 (m::ms)=appF m++Za2 ms:=by simp[Za2]
theorem Zd4(a b:List Msg):Za2 (a++b)=Za2 a++Za2 b:=by simp[Za2]
theorem Znm(a:List Msg)(m:Msg):Za2 (a++[m])=Za2 a++appF m:=by simp[Za2]
theorem Zi2(m:Msg):(appF m).length=2+(msgB m).length:=by simp[appF];omega
theorem Zdy{a b:List UInt8}{k:Nat}:(a++b)[a.length+k]?=b[k]?:=by
 rw[List.getElem?_append_right (by omega)]
 congr 1
 omega
theorem Zkp{a:List UInt8}{b:List UInt8}(h:msgF m=0):recN (a++(appF m++b)) a.length=(msgB m).length:=by
 have c:=msgB_len h
 have e0:(a++(appF m++b))[a.length]?=some (Zaq ((msgB m).length/256:Nat)):=by
  have:=Zdy (a:=a) (b:=appF m++b) (k:=0);rw[Nat.add_zero]at this;rw[this];simp[appF]
 have e1:(a++(appF m++b))[a.length+1]?=some (Zaq ((msgB m).length:Nat)):=by
  rw[Zdy];simp[appF]
 unfold recN;rw[e0,e1];simp only;rw[Zmg (by omega),Zmg (by omega)];omega
theorem Zte{a:List UInt8}{b:List UInt8}(h:msgF m=0):recB (a++(appF m++b)) a.length=msgB m:=by
 unfold recB;rw[Zkp h]
 have e:(a++(appF m++b)).drop (a.length+2)=msgB m++b:=by
  have e2:appF m=[Zaq ((msgB m).length/256:Nat),Zaq ((msgB m).length:Nat)]++msgB m:=rfl;rw[←List.drop_drop,List.drop_left,e2];rfl
 rw[e,List.take_left]
theorem Zx0{a:List UInt8}{b:List UInt8}(h:recF m=0):Zf0 (a++(appF m++b)) a.length=true:=by
 have c:=(Zfw h).1;obtain⟨e,d⟩:=Zya c;have f:=Zi2 m;unfold Zf0;rw[Zkp c,Zte c,e,d,h];simp only[Zl,Bool.and_eq_true,decide_eq_true_eq]
 refine⟨⟨⟨?_,?_⟩,trivial⟩,trivial⟩<;>omega
theorem rcv_stop{d:List UInt8}{k a:Nat}(b:Zf0 d a=false):rcvR d k ms a=(ms,a):=by
 cases k with
 |zero=>rfl
 |succ k=>rw[rcvR,if_neg (by rw[b];decide)]
theorem Zzw:∀(ms:List Msg),Good ms→∀(pre:List UInt8) (ys:List Msg) (b:List UInt8) (k:Nat),ms.length≤k→∃k',k'+ms.length=k∧rcvR (pre++(Za2 ms++b)) k ys pre.length=rcvR (pre++(Za2 ms++b)) k' (ys++ms) (pre.length+(Za2 ms).length):=by
 intro ms
 induction ms with
 |nil=>intro _ pre ys b k _;exact⟨k,rfl,by simp[Za2]⟩
 |cons m ms ih =>
  intro e pre ys b k d;have c:=e m (by simp);have a:=(Zfw c).1;cases k with
  |zero=>simp at d
  |succ k =>
   obtain⟨k',i,f⟩:=ih (fun x g=>e x (by simp[g])) (pre++appF m) (ys++[m]) b k (by simp at d;omega);refine⟨k',by simp;omega,?_⟩;rw[Zjg,List.append_assoc];rw[rcvR,if_pos (Zx0 c),Zte a,(Zya a).2,Zkp a];have e1:pre.length+2+(msgB m).length=(pre++appF m).length:=by rw[Zl,Zi2];omega
   rw[List.append_assoc]at f;rw[e1,f]
   congr 1
   ·simp
   ·simp;omega
theorem Ztd(ms:List Msg):ms.length≤(Za2 ms).length:=by
 induction ms with
 |nil=>exact Za _
 |cons m ms ih=>rw[Zjg,Zl,Zi2,Zu];omega
theorem Zxz(d:List UInt8):Zf0 d d.length=false:=by
 unfold Zf0;have:decide (d.length+2≤d.length)=false:=by simp
 rw[this];rfl
theorem Zva{a:List UInt8}{k:Nat}(h:msgF m=0)(d:k<(appF m).length):Zf0 (a++(appF m).take k) a.length=false:=by
 unfold Zf0;have f:=Zi2 m
 by_cases e:k<2
 ·have:decide (a.length+2≤(a++(appF m).take k).length)=false:=by simp;omega
  rw[this];rfl
 ·have hn:recN (a++(appF m).take k) a.length=(msgB m).length:=by
   have c:=Zkp (a:=a) (b:=[]) h;rw[List.append_nil]at c;rw[←c];unfold recN;have e0:=Zdy (a:=a) (b:=(appF m).take k) (k:=0);have e1:=Zdy (a:=a) (b:=(appF m).take k) (k:=1);have f0:=Zdy (a:=a) (b:=appF m) (k:=0);have f1:=Zdy (a:=a) (b:=appF m) (k:=1);rw[Nat.add_zero]at e0 f0;rw[e0,e1,f0,f1,List.getElem?_take,if_pos (by omega),List.getElem?_take,if_pos (by omega)]
  have:decide (a.length+2+recN (a++(appF m).take k) a.length≤(a++(appF m).take k).length)=false:=by
   rw[hn];simp;omega
  rw[this];simp
theorem Zwz(y:Good ms){k:Nat}(s:k≤(Za2 ms).length) :
 ∃j,j≤ms.length∧rcvP ((Za2 ms).take k)=(ms.take j,(Za2 (ms.take j)).length)∧(Za2 (ms.take j)).length≤k∧∀i,i≤ms.length→(Za2 (ms.take i)).length≤k→i≤j:=by
 -- the greatest number of whole records
 have t:∀i,i≤ms.length→∀j,j≤i→(Za2 (ms.take j)).length+(i-j)≤(Za2 (ms.take i)).length:=by
  intro i hi j u
  have e:ms.take i=ms.take j++(ms.take i).drop j:=by
   have:=(List.take_append_drop j (ms.take i)).symm;rwa[List.take_take,Nat.min_eq_left u]at this
  rw[e,Zd4,Zl];have:=Ztd ((ms.take i).drop j);simp at this;omega
 obtain⟨j,u,p,g⟩:∃j,j≤ms.length∧(Za2 (ms.take j)).length≤k∧∀i,i≤ms.length→(Za2 (ms.take i)).length≤k→i≤j:=by
  have:∀n,n≤ms.length→(∀i,i≤ms.length→n<i→¬(Za2 (ms.take i)).length≤k)→∃j,j≤ms.length∧(Za2 (ms.take j)).length≤k∧∀i,i≤ms.length→(Za2 (ms.take i)).length≤k→i≤j:=by
   intro n
   induction n with
   |zero=>intro hn d;exact⟨0,Zf _,by simp[Za2],fun i hi b=>Nat.le_of_not_lt fun h=>d i hi h b⟩
   |succ n ih =>
    intro hn d
    by_cases s:(Za2 (ms.take (n+1))).length≤k
    ·exact⟨n+1,hn,s,fun i hi b=>Nat.le_of_not_lt fun h=>d i hi h b⟩
    ·refine ih (by omega) (fun i hi w b=>?_)
     by_cases e:i=n+1
     ·subst e;exact s b
     ·exact d i hi (by omega) b
  exact this ms.length (Za _) (fun i hi h=>by omega)
 refine⟨j,u,?_,p,g⟩;have v:Good (ms.take j):=fun m q=>y m (List.mem_of_mem_take q)
 -- the cut tape: whole records,then a torn one
 have f:Za2 ms=Za2 (ms.take j)++Za2 (ms.drop j):=by rw[←Zd4,List.take_append_drop]
 have l:(Za2 ms).take k=Za2 (ms.take j)++(Za2 (ms.drop j)).take (k-(Za2 (ms.take j)).length):=by
  rw[f,List.take_append,List.take_of_length_le p]
 rw[l]
 have o:Zf0 (Za2 (ms.take j)++(Za2 (ms.drop j)).take (k-(Za2 (ms.take j)).length)) (Za2 (ms.take j)).length=false:=by
  cases hd:ms.drop j with
  |nil =>
   have:=Zxz (Za2 (ms.take j));simpa[Za2]using this
  |cons m r =>
   have c:j<ms.length:=by
    have:(ms.drop j).length≠0:=by rw[hd];simp
    simp at this;omega
   have q:m=ms[j]:=by
    have:=List.drop_eq_getElem_cons c;rw[hd]at this;injection this
   have x:¬(Za2 (ms.take (j+1))).length≤k:=fun b=>by have:=g (j+1) (by omega) b;omega
   rw[Zn c,Znm,Zl,←q]at x;rw[Zjg,List.take_append_of_le_length (by omega)];exact Zva (Zfw (y m (by rw[q];exact List.getElem_mem c))).1 (by omega)
 unfold rcvP;obtain⟨k',x,z⟩:=Zzw (ms.take j) v [] [] ((Za2 (ms.drop j)).take (k-(Za2 (ms.take j)).length)) ((Za2 (ms.take j)++(Za2 (ms.drop j)).take (k-(Za2 (ms.take j)).length)).length+1) (by have:=Ztd (ms.take j);simp only[Zl];omega);simp only[List.nil_append,List.length_nil,Nat.zero_add]at z;rw[z,rcv_stop o]
theorem Zjc{l:List Slot}{a r:Int}:Zb4 l a r<0↔∀s∈l,¬(s.author=a∧s.round=r):=by
 unfold Zb4;constructor
 ·intro h s d;split at h
  ·omega
  ·rename_i hn;rw[List.findIdx?_eq_none_iff]at hn;have:=hn s d;simpa using this
 ·intro h;split
  ·rename_i i hi;obtain⟨c,b,_⟩:=List.findIdx?_eq_some_iff_getElem.1 hi;have:=h l[i] (List.getElem_mem c);simp at b;exact absurd b this
  ·decide
theorem Zok{l:List Slot}{a r:Int}(h:0≤Zb4 l a r):∃i,∃hi:i<l.length,Zb4 l a r=i∧l[i].author=a∧l[i].round=r:=by
 unfold Zb4 at h⊢;split at h
 ·rename_i i hi;obtain⟨c,b,_⟩:=List.findIdx?_eq_some_iff_getElem.1 hi;simp at b;exact⟨i,c,rfl,b⟩
 ·exact absurd h (by decide)
def Zmo(s:Slot):Prop:=Zgm s.author s.round s.digest.length=0
def Uniq(l:List Slot):Prop:=l.Pairwise fun x y=>¬(x.author=y.author∧x.round=y.round)
theorem Zc7{l:List Slot}:Zdd l=0↔l.length≤400∧(∀s∈l,Zmo s)∧Uniq l:=by
 unfold Zdd;constructor
 ·intro h;split at h
  ·cases h
  ·split at h
   ·cases h
   ·rename_i e c
    have a:∀i (hi:i<l.length),Zgm l[i].author l[i].round l[i].digest.length=0∧Zb4 (l.take i) l[i].author l[i].round<0:=fun i hi=>by
     rw[Bool.not_eq_true,List.any_eq_false]at c;have:=c i (List.mem_range.2 hi);unfold Zh5 at this;rw[Zp hi]at this;simp at this;omega
    refine⟨by omega,fun s b=>?_,?_⟩
    ·obtain⟨i,hi,rfl⟩:=List.getElem_of_mem b;exact(a i hi).1
    ·unfold Uniq;rw[List.pairwise_iff_getElem];intro i j hi d f;have:=Zjc.1 (a j d).2 l[i] (by rw[List.mem_take_iff_getElem];exact⟨i,by omega,rfl⟩);exact this
 ·rintro⟨e,c,g⟩;rw[if_neg (by omega),if_neg ?_];rw[Bool.not_eq_true,List.any_eq_false];intro i hi;have hi:=List.mem_range.1 hi;unfold Zh5;rw[Zp hi];have q1:=c l[i] (List.getElem_mem hi)
  have q2:Zb4 (l.take i) l[i].author l[i].round<0:=Zjc.2 fun s b=>by
   rw[List.mem_take_iff_getElem]at b;obtain⟨j,d,rfl⟩:=b;have:=List.pairwise_iff_getElem.1 g j i (by omega) hi (by omega);exact this
  unfold Zmo at q1;simp[q1];omega
theorem hD_len{h:Hdr}(a:hF h=0):(hD h).length=32:=by
 have b:=headerB_len a;unfold hD hdrD tagR;rw[if_neg]
 ·exact Zs3 _
 ·simp[Zdv];omega
theorem Zxx{h:Hdr}(a:hF h=0):hdR h=hD h:=by
 unfold hdR Zjq;rw[if_pos (show Zb5 h.author h.round h.batches h.parents=0 from a)];rfl
theorem Zs6{h:Hdr}(a:hF h=0):Zmo (Zck h):=by
 obtain⟨b,c,_⟩:=headF_zero a;unfold Zmo Zck Zgm;simp only[hD_len a];rw[Zbj.2 b,Zbj.2 c];rfl
theorem Zeu{l:List Slot}{h:Hdr}(b:Ze5 l h=0):Zdd l=0∧hF h=0∧Zcz l h=Zck h ∧
 ((Zc6 l h=l∧Zck h∈l)∨(Zc6 l h=l++[Zck h]∧l.length<400∧∀s∈l,¬(s.author=h.author∧s.round=h.round))):=by
 have c:=b;unfold Ze5 at b;split at b
 ·rename_i j;exact absurd b j
 ·rename_i j;split at b
  ·rename_i k;exact absurd b k
  ·rename_i k;refine⟨Classical.not_not.1 j,Classical.not_not.1 k,by unfold Zcz;rw[if_pos c],?_⟩;split at b
   ·rename_i g;obtain⟨i,hi,e,e1,e2⟩:=Zok g;rw[e,Int.toNat_natCast,Zp hi]at b;simp only at b;split at b
    ·rename_i f;refine .inl ⟨by unfold Zc6;rw[if_pos c,if_pos g],?_⟩;have f:l[i].digest=hD h:=by simpa using f
     have:l[i]=Zck h:=by
      cases hs:l[i]with
      |mk a r d=>rw[hs]at e1 e2 f;simp at e1 e2 f;simp[Zck,e1,e2,f]
     rw[←this];exact List.getElem_mem hi
    ·cases b
   ·rename_i g;split at b
    ·cases b
    ·exact .inr ⟨by unfold Zc6;rw[if_pos c,if_neg g],by omega,Zjc.1 (by omega)⟩
theorem Zhg{l:List Slot}{h:Hdr}(k:Ze5 l h=0):Zdd (Zc6 l h)=0∧Zck h∈Zc6 l h∧(∀s∈l,s∈Zc6 l h)∧l <+: Zc6 l h:=by
 obtain⟨d,m,_,j⟩:=Zeu k
 rcases j with ⟨e,f⟩|⟨e,f,i⟩
 ·rw[e];exact⟨d,f,fun s c=>c,List.prefix_refl _⟩
 ·rw[e];obtain⟨q1,q2,q3⟩:=Zc7.1 d;refine⟨Zc7.2 ⟨by simp;omega,fun s c=>?_,?_⟩,by simp,fun s c=>by simp[c],List.prefix_append _ _⟩
  ·rcases List.mem_append.1 c with c|c
   ·exact q2 s c
   ·rw[Zv c];exact Zs6 m
  ·unfold Uniq;rw[List.pairwise_append];refine⟨q3,List.pairwise_singleton _ _,fun a n b g=>?_⟩;rw[Zv g];exact i a n
theorem Zgv{c:Crt}(h:insE l c=0):dagF hD cF l=0∧cF c=0∧Zif l c.hdr=false∧parF l (dsOf hD l) c.hdr=0∧l.length<400∧insL l c=l++[c]:=by
 have a:=h;unfold insE at h;split at h
 ·rename_i q;exact absurd h q
 ·rename_i q1;split at h
  ·rename_i q;exact absurd h q
  ·rename_i q2;split at h
   ·cases h
   ·rename_i q3;split at h
    ·rename_i q;exact absurd h q
    ·rename_i q4;split at h
     ·cases h
     ·exact⟨Classical.not_not.1 q1,Classical.not_not.1 q2,by simpa using q3,Classical.not_not.1 q4,by omega,by unfold insL;rw[if_pos a]⟩
theorem Zl2(f:Hdr→List UInt8)(a b:List Crt):dsOf f (a++b)=dsOf f a++dsOf f b:=by simp[dsOf]
theorem dagF_zero:dagF hD cF l=0↔l.length≤400∧(∀c∈l,cF c=0)∧∀i,i<l.length→badC hD l i=false:=by
 unfold dagF;constructor
 ·intro h;split at h
  ·cases h
  ·split at h
   ·cases h
   ·split at h
    ·cases h
    ·rename_i e a b;refine⟨by omega,fun c d=>?_,fun i hi=>?_⟩
     ·rw[Bool.not_eq_true,List.any_eq_false]at a;simpa using a c d
     ·rw[Bool.not_eq_true,List.any_eq_false]at b;simpa using b i (List.mem_range.2 hi)
 ·rintro⟨e,a,b⟩;rw[if_neg (by omega),if_neg ?_,if_neg ?_]
  ·rw[Bool.not_eq_true,List.any_eq_false];intro i hi;simp[b i (List.mem_range.1 hi)]
  ·rw[Bool.not_eq_true,List.any_eq_false];intro c d;simp[a c d]
theorem Zsv{r:List Crt}(hi:i<l.length):badC hD (l++r) i=badC hD l i:=by
 unfold badC;rw[List.getElem?_append_left hi,List.take_append_of_le_length (by omega),Zl2,List.take_append_of_le_length (by simp[dsOf];omega)]
theorem insL_ok{c:Crt}(h:insE l c=0):dagF hD cF (l++[c])=0:=by
 obtain⟨d,g,f,e,j,_⟩:=Zgv h;obtain⟨q1,q2,q3⟩:=dagF_zero.1 d;refine dagF_zero.2 ⟨by simp;omega,fun x a=>?_,fun i hi=>?_⟩
 ·rcases List.mem_append.1 a with a|a
  ·exact q2 x a
  ·rw[Zv a];exact g
 ·by_cases b:i<l.length
  ·rw[Zsv b];exact q3 i b
  ·have:i=l.length:=by simp at hi;omega
   subst this;unfold badC;rw[List.getElem?_append_right (Za _),Nat.sub_self];simp only[List.getElem?_cons_zero];rw[List.take_left,Zl2,List.take_left' (by simp[dsOf]),f,e];rfl
structure Co where
 bats:List Bat
 digs:List (List UInt8)
 table:List Slot
 dag:List Crt
def core(n:Nd):Co:=⟨n.bats,n.digs,n.table,n.dag⟩
def Zkj(c:Co)(b:Bat):Co:=if 0≤idxI (·==bdR b) c.digs∨c.bats.length=800 then c else {c with bats:=c.bats++[b],digs:=c.digs++[bdR b] }
def Ze4(c:Co)(m:Msg):Co :=
 if m.kind=1 then Zkj c m.bat
 else if m.kind=2 then {c with table:=if Ze5 c.table m.hdr=0 then Zc6 c.table m.hdr else c.table }
 else if m.kind=3 then {c with table:=c.table++[m.slt] }
 else if m.kind=4 then(if insE c.dag m.crt≠0 then c else {c with dag:=insL c.dag m.crt })
 else c
def co0:Co:=⟨[],[],[],[]⟩
def coOf(ms:List Msg):Co:=ms.foldl Ze4 co0
theorem Zma(ms:List Msg)(m:Msg):coOf (ms++[m])=Ze4 (coOf ms) m:=by simp[coOf,List.foldl_append]
theorem Zk5(n:Nd)(b:Bat):core (store n b false).1=Zkj (core n) b:=by
 unfold store Zkj
 by_cases h:0≤held n (bdR b)∨n.bats.length=800
 ·rw[if_pos h,if_pos (show 0≤idxI (·==bdR b) (core n).digs∨(core n).bats.length=800 from h)]
 ·rw[if_neg h,if_neg (show ¬(0≤idxI (·==bdR b) (core n).digs∨(core n).bats.length=800) from h)];rfl
theorem Zg5(n:Nd)(b:Bat)(w:Bool):(store n b w).1.me=n.me:=by
 unfold store kept put;split<;>(try split)<;>(try split)<;>rfl
theorem Zqn(n:Nd)(c:Crt)(w:Bool):(insert n c w).1.me=n.me:=by
 unfold insert kept;split<;>(try split)<;>(try split)<;>rfl
theorem Zq2(n:Nd)(m:Msg):core (recS n m)=Ze4 (core n) m:=by
 unfold recS Ze4;split
 ·split
  ·have:=Zk5 n m.bat;simpa[core]using this
  ·exact Zk5 n m.bat
 ·split
  ·rfl
  ·split
   ·rfl
   ·split
    ·unfold insert
     by_cases h:insE n.dag m.crt≠0
     ·rw[if_pos h,if_pos (show insE (core n).dag m.crt≠0 from h)]
     ·rw[if_neg h,if_neg (show ¬insE (core n).dag m.crt≠0 from h)];rfl
    ·rfl
theorem Ziv(ms:List Msg)(n:Nd):core (ms.foldl recS n)=ms.foldl Ze4 (core n):=by
 induction ms generalizing n with
 |nil=>rfl
 |cons m ms ih=>rw[List.foldl_cons,List.foldl_cons,ih,Zq2]
theorem Znu{x s:Sign}:Zfi x s=true↔x=s:=by
 obtain⟨a,b,c,d⟩:=x;obtain⟨a',b',c',d'⟩:=s;simp[Zfi]
theorem Zda{l:List Sign}{s:Sign}:Zce l s=true↔s∈l:=by
 unfold Zce;rw[List.any_eq_true];constructor
 ·rintro⟨x,a,h⟩;rw[←Znu.1 h];exact a
 ·intro h;exact⟨s,h,Znu.2 rfl⟩
def Zn3(s:Sign):Prop:=Zle s.node s.slot.author s.slot.round s.slot.digest.length=0
theorem Znj{s:Sign}:Zn3 s↔(0≤s.node∧s.node≤3)∧Zmo s.slot:=by
 unfold Zn3 Zle Zmo;constructor
 ·intro h;split at h
  ·rename_i a;exact⟨Zbj.1 a,h⟩
  ·cases h
 ·rintro⟨a,b⟩;rw[if_pos (Zbj.2 a)];exact b
theorem Zlc{l:List Sign}:Zei l=0↔(∀s∈l,Zn3 s)∧l.Nodup:=by
 unfold Zei;constructor
 ·intro h;split at h
  ·cases h
  ·rename_i c;rw[Bool.not_eq_true,List.any_eq_false]at c
   have a:∀i (hi:i<l.length),Zn3 l[i]∧l[i]∉l.take i:=fun i hi=>by
    have:=c i (List.mem_range.2 hi);unfold Zh6 at this;rw[Zp hi]at this;simp only[Bool.or_eq_true,not_or,bne_iff_ne,ne_eq,Decidable.not_not]at this;exact⟨this.1,fun b=>this.2 (Zda.2 b)⟩
   refine⟨fun s k=>?_,?_⟩
   ·obtain⟨i,hi,rfl⟩:=List.getElem_of_mem k;exact(a i hi).1
   ·unfold List.Nodup;rw[List.pairwise_iff_getElem];intro i j hi d g e;exact(a j d).2 (by rw[List.mem_take_iff_getElem];exact⟨i,by omega,e⟩)
 ·rintro⟨f,c⟩;rw[if_neg];rw[Bool.not_eq_true,List.any_eq_false];intro i hi;have hi:=List.mem_range.1 hi;unfold Zh6;rw[Zp hi];simp only[Bool.or_eq_true,not_or,bne_iff_ne,ne_eq,Decidable.not_not];refine⟨f _ (List.getElem_mem hi),fun h=>?_⟩;have b:=Zda.1 h;rw[List.mem_take_iff_getElem]at b;obtain⟨j,d,e⟩:=b;exact List.pairwise_iff_getElem.1 c j i (by omega) hi (by omega) e
def sgn(signs:List Sign)(rogue:Int)(v:Int)(s:Slot):Prop:=v=rogue∨⟨v,s⟩∈signs
structure SI (signs:List Sign) (rogue:Int):Prop where
 ok:Zei signs=0
 range:inB rogue (-1) 3=true
 author:∀s∈signs,s.slot.author=s.node∨sgn signs rogue s.slot.author s.slot
 honest:∀s∈signs,s.node≠rogue
theorem Zjd{rogue v:Int}{s:Slot}(h:SI signs rogue):signed signs rogue v s=true↔Zn3 ⟨v,s⟩∧sgn signs rogue v s:=by
 unfold signed Zje Zld;rw[h.ok,h.range];simp only[ne_eq,not_true_eq_false,if_false,if_true,Bool.if_false_left,Bool.and_eq_true,Bool.or_eq_true,beq_iff_eq,Bool.not_eq_true',decide_eq_false_iff_not,Decidable.not_not];rw[Zda];rfl
theorem Zjh{rogue:Int}{c:Crt}(h:SI signs rogue):Zmz signs rogue c=0↔cF c=0∧∀n∈c.voters++[c.hdr.author],sgn signs rogue n (Zlb c):=by
 unfold Zmz;rw[h.ok,h.range];simp only[ne_eq,not_true_eq_false,if_false,if_true]
 by_cases a:cF c=0
 ·rw[a];simp only[not_true_eq_false,if_false];rw[true_and]
  by_cases b:(c.voters++[c.hdr.author]).all (Zdl signs rogue (Zlb c))=true
  ·rw[if_pos b];refine⟨fun _ n hn=>?_,fun _=>rfl⟩;have:=List.all_eq_true.1 b n hn;unfold Zdl at this;simp only[Bool.or_eq_true,beq_iff_eq]at this;exact this.imp id Zda.1
  ·rw[if_neg b];refine⟨fun h=>(by cases h),fun h=>absurd (List.all_eq_true.2 fun n hn=>?_) b⟩;unfold Zdl;simp only[Bool.or_eq_true,beq_iff_eq];exact(h n hn).imp id Zda.2
 ·rw[if_pos a];exact⟨fun h=>absurd h a,fun h=>absurd h.1 a⟩
def RecNew(k:Int)(c:Co)(m:Msg):Prop :=
 (m.kind=1→¬(0≤idxI (·==bdR m.bat) c.digs∨c.bats.length=800)∧Zcs m.bat.author m.bat.number m.bat.txs=0) ∧
 (m.kind=2→∀s∈c.table,s.author=k→s.round<m.hdr.round)∧(m.kind=3→m.slt.author≠k)
def Zvu(signs:List Sign)(rogue k:Int)(c:Co)(m:Msg):Prop :=
 (m.kind=2→m.hdr.author=k∧Ze5 c.table m.hdr=0) ∧
 (m.kind=3→Zmo m.slt∧c.table.length<400∧(∀s∈c.table,¬(s.author=m.slt.author∧s.round=m.slt.round))∧sgn signs rogue m.slt.author m.slt) ∧
 (m.kind=4→insE c.dag m.crt=0∧Zmz signs rogue m.crt=0)∧RecNew k c m
def RecsOk(signs:List Sign)(rogue k:Int)(ms:List Msg):Prop:=∀i (hi:i<ms.length),Zvu signs rogue k (coOf (ms.take i)) ms[i]
theorem RecsOk.take{rogue k:Int}(h:RecsOk signs rogue k ms)(j:Nat):RecsOk signs rogue k (ms.take j):=fun i hi=>by
 have a:i<j∧i<ms.length:=by simp at hi;omega
 have:=h i a.2
 rw[List.take_take,Nat.min_eq_left (by omega),List.getElem_take]
 exact this
theorem RecsOk.snoc{rogue k:Int}(h:RecsOk signs rogue k ms)(b:Zvu signs rogue k (coOf ms) m):RecsOk signs rogue k (ms++[m]):=fun i hi=>by
 by_cases a:i<ms.length
 ·rw[List.take_append_of_le_length (by omega),List.getElem_append_left a]
  exact h i a
 ·have:i=ms.length:=by simp at hi;omega
  subst this
  rw[List.take_left' rfl]
  simpa using b
structure CoOk (signs:List Sign) (rogue k:Int) (c:Co):Prop where
 digs:c.digs=c.bats.map bdR
 few:c.bats.length≤800
 bats:(∀b∈c.bats,Zcs b.author b.number b.txs=0)∧c.digs.Nodup
 table:Zdd c.table=0
 others:∀s∈c.table,s.author=k∨sgn signs rogue s.author s
 dag:dagF hD cF c.dag=0
 prov:∀x∈c.dag,Zmz signs rogue x=0
theorem Zvl{c:Co}(b:Bat)(h:c.digs=c.bats.map bdR):(Zkj c b).digs=(Zkj c b).bats.map bdR:=by
 unfold Zkj;split
 ·exact h
 ·simp[h]
theorem Zyh{rogue k:Int}{c:Co}(h:CoOk signs rogue k c)(l:Zvu signs rogue k c m):CoOk signs rogue k (Ze4 c m):=by
 unfold Ze4;split
 ·have hd:=Zvl m.bat h.digs;rename_i g;obtain⟨j,o⟩:=l.2.2.2.1 g;refine⟨hd,?_,?_,?_,?_,?_,?_⟩
  ·unfold Zkj;split
   ·exact h.few
   ·rename_i hn;have:=h.few;simp at hn ⊢;omega
  ·unfold Zkj;rw[if_neg j];refine⟨fun b f=>?_,?_⟩
   ·rcases List.mem_append.1 f with f|f
    ·exact h.bats.1 b f
    ·rw[Zv f];exact o
   ·show(c.digs++[bdR m.bat]).Nodup;unfold List.Nodup;rw[List.pairwise_append];refine⟨h.bats.2,List.pairwise_singleton _ _,fun a p b f e=>?_⟩;rw[Zv f]at e;subst e;apply j;left
    rcases Int.lt_or_le (idxI (·==bdR m.bat) c.digs) 0 with t|n
    ·exfalso;have:=Zkr (·==bdR m.bat) c.digs;rw[decide_eq_false (by omega)]at this;have r:=this.symm;rw[List.any_eq_false]at r;exact r _ p (by simp)
    ·exact n
  all_goals unfold Zkj;split
  ·exact h.table
  ·exact h.table
  ·exact h.others
  ·exact h.others
  ·exact h.dag
  ·exact h.dag
  ·exact h.prov
  ·exact h.prov
 ·split
  ·rename_i g;obtain⟨e1,e2⟩:=l.1 g;rw[if_pos e2];refine⟨h.digs,h.few,h.bats,(Zhg e2).1,fun s d=>?_,h.dag,h.prov⟩;obtain⟨_,_,_,q⟩:=Zeu e2
   rcases q with ⟨q,_⟩|⟨q,_⟩
   ·simp only[q]at d;exact h.others s d
   ·simp only[q]at d
    rcases List.mem_append.1 d with d|d
    ·exact h.others s d
    ·rw[Zv d];exact .inl e1
  ·split
   ·rename_i g;obtain⟨e1,e2,e3,e4⟩:=l.2.1 g;obtain⟨q1,q2,q3⟩:=Zc7.1 h.table;refine⟨h.digs,h.few,h.bats,Zc7.2 ⟨by simp;omega,fun s d=>?_,?_⟩,fun s d=>?_,h.dag,h.prov⟩
    ·rcases List.mem_append.1 d with d|d
     ·exact q2 s d
     ·rw[Zv d];exact e1
    ·unfold Uniq;rw[List.pairwise_append];refine⟨q3,List.pairwise_singleton _ _,fun a p b f=>?_⟩;rw[Zv f];exact e3 a p
    ·rcases List.mem_append.1 d with d|d
     ·exact h.others s d
     ·rw[Zv d];exact .inr e4
   ·split
    ·rename_i g;obtain⟨e1,e2⟩:=l.2.2.1 g;rw[if_neg (by simp[e1])];obtain⟨_,_,_,_,_,e⟩:=Zgv e1;refine⟨h.digs,h.few,h.bats,h.table,h.others,?_,fun x i=>?_⟩
     ·simp only[e];exact insL_ok e1
     ·simp only[e]at i
      rcases List.mem_append.1 i with i|i
      ·exact h.prov x i
      ·rw[Zv i];exact e2
    ·exact h
theorem Zyi{rogue k:Int}:∀{ms:List Msg},RecsOk signs rogue k ms→CoOk signs rogue k (coOf ms):=by
 intro ms h
 have:∀i,i≤ms.length→CoOk signs rogue k (coOf (ms.take i)):=by
  intro i
  induction i with
  |zero =>
   intro _;rw[List.take_zero];exact⟨rfl,by decide,⟨fun b d=>by simp[coOf,co0]at d,List.nodup_nil⟩,by decide,fun s a=>by simp[coOf,co0]at a,by decide,fun s a=>by simp[coOf,co0]at a⟩
  |succ i ih =>
   intro hi;have:=Zyh (ih (by omega)) (h i (by omega));rw[Zn (by omega),Zma];exact this
 have c:=this ms.length (Za _);rwa[List.take_length]at c
structure Le (a b:Co):Prop where
 bats:a.bats <+: b.bats
 digs:a.digs <+: b.digs
 table:a.table <+: b.table
 dag:a.dag <+: b.dag
theorem Le.refl(a:Co):Le a a:=⟨List.prefix_refl _,List.prefix_refl _,List.prefix_refl _,List.prefix_refl _⟩
theorem Le.trans{a b c:Co}(h:Le a b)(k:Le b c):Le a c:=⟨h.bats.trans k.bats,h.digs.trans k.digs,h.table.trans k.table,h.dag.trans k.dag⟩
theorem Zq3(l:List Slot)(h:Hdr):l <+: (if Ze5 l h=0 then Zc6 l h else l):=by
 split
 ·rename_i a;exact(Zhg a).2.2.2
 ·exact List.prefix_refl _
theorem Zl9(c:Co)(m:Msg):Le c (Ze4 c m):=by
 unfold Ze4;split
 ·unfold Zkj;split
  ·exact Le.refl _
  ·exact⟨List.prefix_append _ _,List.prefix_append _ _,List.prefix_refl _,List.prefix_refl _⟩
 ·split
  ·exact⟨List.prefix_refl _,List.prefix_refl _,Zq3 _ _,List.prefix_refl _⟩
  ·split
   ·exact⟨List.prefix_refl _,List.prefix_refl _,List.prefix_append _ _,List.prefix_refl _⟩
   ·split
    ·split
     ·exact Le.refl _
     ·rename_i hn;have e:=(Zgv (Classical.not_not.1 hn)).2.2.2.2.2;exact⟨List.prefix_refl _,List.prefix_refl _,List.prefix_refl _,by rw[e];exact List.prefix_append _ _⟩
    ·exact Le.refl _
theorem Zyk(ms:List Msg)(c:Co):Le c (ms.foldl Ze4 c):=by
 induction ms generalizing c with
 |nil=>exact Le.refl _
 |cons m ms ih=>exact(Zl9 c m).trans (ih _)
theorem Zyj{a b:List Msg}(h:a <+: b):Le (coOf a) (coOf b):=by
 obtain⟨t,rfl⟩:=h;unfold coOf;rw[List.foldl_append];exact Zyk t _
structure Tap (n:Nd) (ms:List Msg) (j:Nat):Prop where
 good:Good ms
 tl:n.tl=Za2 ms
 short:n.tl.length≤400000
 jl:j≤ms.length
 ty:n.ty=(Za2 (ms.take j)).length
theorem Zfc(ms:List Msg)(j:Nat):(Za2 (ms.take j)).length≤(Za2 ms).length:=by
 have:Za2 ms=Za2 (ms.take j)++Za2 (ms.drop j):=by rw[←Zd4,List.take_append_drop]
 rw[this,Zl];omega
theorem Tap.may(h:Tap n ms j):Zbc n.tl n.ty=true:=by
 have:=Zfc ms j;have a:=h.short;unfold Zbc;rw[h.ty];rw[h.tl]at a⊢;simp;omega
theorem Zjm(h:Tap n ms j)(a:Zfr n m=0):recF m=0∧Tap (kept n m) (ms++[m]) j:=by
 have c:appE n.tl n.ty m=0:=a;unfold Zfr appE at a;rw[if_pos h.may]at a;split at a
 ·rename_i q;exact absurd a q
 ·rename_i q;split at a
  ·cases a
  ·rename_i q2;have q0:=Classical.not_not.1 q;have e1:appL n.tl n.ty m=n.tl++appF m:=by unfold appL;rw[if_pos c]
   have e2:appA n.tl n.ty m=n.ty:=by unfold appA;rw[if_pos c]
   refine⟨q0,⟨fun x b=>?_,?_,?_,?_,?_⟩⟩
   ·rcases List.mem_append.1 b with b|b
    ·exact h.good x b
    ·rw[Zv b];exact q0
   ·show appL _ _ _=_;rw[e1,h.tl,Znm]
   ·show(appL _ _ _).length≤_;rw[e1,Zl,Zi2];omega
   ·have:=h.jl;simp;omega
   ·show appA _ _ _=_;rw[e2,h.ty,List.take_append_of_le_length h.jl]
theorem kno{a b:Int}{p:Prop}(h:(a==b)=false)(e:a=b):p:=by subst e;simp at h
def OutOk(k:Int)(table:List Slot)(m:Msg):Prop :=
 m.src=k∧(0≤m.dst∧m.dst≤3)∧(m.kind=2→m.hdr.author=k∧hF m.hdr=0∧Zck m.hdr∈table)∧(m.kind=3→m.slt∈table)
structure NI (signs:List Sign) (rogue k:Int) (n:Nd) (ms:List Msg) (j:Nat):Prop where
 tap:Tap n ms j
 recs:RecsOk signs rogue k ms
 core:core n=coOf ms
 me:n.me=k
 kr:0≤k∧k≤3
 own:∀h,n.own=some h→h.author=k∧hF h=0∧n.mine=hD h∧Zck h∈n.table
 voters:∀v∈n.voters,v=k∨∃h,n.own=some h∧sgn signs rogue v (Zck h)
 once:n.voters.Nodup∧∀v∈n.voters,0≤v∧v≤3
 out:∀m∈n.out,OutOk k n.table m
 turn:0≤n.turn∧n.turn≤3
 down:n.up=false→j=ms.length
 last:∀s∈n.table,s.author=k→∃h,n.own=some h∧s.round≤h.round
section
variable {signs:List Sign} {rogue k:Int} {n:Nd} {ms:List Msg} {j:Nat}
theorem NI.co(h:NI signs rogue k n ms j):CoOk signs rogue k (coOf ms):=Zyi h.recs
theorem NI.table(h:NI signs rogue k n ms j):n.table=(coOf ms).table:=by rw[←h.core];rfl
theorem NI.dag(h:NI signs rogue k n ms j):n.dag=(coOf ms).dag:=by rw[←h.core];rfl
theorem NI.bats(h:NI signs rogue k n ms j):n.bats=(coOf ms).bats:=by rw[←h.core];rfl
theorem NI.digs(h:NI signs rogue k n ms j):n.digs=(coOf ms).digs:=by rw[←h.core];rfl
theorem OutOk.mono{k:Int}{t t':List Slot}(h:OutOk k t m)(ht:∀s∈t,s∈t'):OutOk k t' m :=
 ⟨h.1,h.2.1,fun e=>⟨(h.2.2.1 e).1,(h.2.2.1 e).2.1,ht _ (h.2.2.1 e).2.2⟩,fun e=>ht _ (h.2.2.2 e)⟩
theorem NI.step(h:NI signs rogue k n ms j)(i:Zfr n m=0)(g:Zvu signs rogue k (coOf ms) m)(e:n.up=true){n':Nd}(e1:n'.tl=(kept n m).tl)(e2:n'.ty=(kept n m).ty)(e3:Fl.core n'=Ze4 (Fl.core n) m)(e4:n'.me=n.me)(e7:n'.up=n.up)(e5:n'.own=n.own)(e6:n'.mine=n.mine)(e8:n'.voters=n.voters)(e9:n'.out=n.out)(e10:n'.turn=n.turn)(e11:∀s∈n'.table,s.author=k→s∈n.table):NI signs rogue k n' (ms++[m]) j:=by
 obtain⟨q1,q2⟩:=Zjm h.tap i
 have a:∀s∈n.table,s∈n'.table:=fun s d=>by
  have b:=Zl9 (Fl.core n) m;rw[←e3]at b;exact b.table.subset d
 refine⟨⟨q2.good,by rw[e1];exact q2.tl,by rw[e1];exact q2.short,q2.jl,by rw[e2];exact q2.ty⟩,h.recs.snoc g,by rw[e3,h.core,Zma],by rw[e4];exact h.me,h.kr,?_,?_,by rw[e8];exact h.once,?_,by rw[e10];exact h.turn,?_,fun s d f=>by rw[e5];exact h.last s (e11 s d f) f⟩
 ·intro x c;rw[e5]at c;obtain⟨p1,p2,p3,p4⟩:=h.own x c;exact⟨p1,p2,by rw[e6];exact p3,a _ p4⟩
 ·rw[e8,e5];exact h.voters
 ·rw[e9];exact fun x c=>(h.out x c).mono a
 ·intro hd;rw[e7,e]at hd;cases hd
theorem NI.send(h:NI signs rogue k n ms j){tw:Int}{m:Msg}(ht:0≤tw∧tw≤3)(b:m.kind=2→m.hdr.author=k∧hF m.hdr=0∧Zck m.hdr∈n.table)(c:m.kind=3→m.slt∈n.table):NI signs rogue k (send n tw m) ms j:=by
 unfold Fl.send;split
 ·refine⟨⟨h.tap.good,h.tap.tl,h.tap.short,h.tap.jl,h.tap.ty⟩,h.recs,h.core,h.me,h.kr,h.own,h.voters,h.once,fun x a=>?_,h.turn,h.down,h.last⟩
  rcases List.mem_append.1 a with a|a
  ·exact h.out x a
  ·rw[Zv a];exact⟨h.me,ht,b,c⟩
 ·exact h
def Zt1(k:Int)(n:Nd)(m:Msg):Prop:=(m.kind=2→m.hdr.author=k∧hF m.hdr=0∧Zck m.hdr∈n.table)∧(m.kind=3→m.slt∈n.table)
theorem Zul(n:Nd)(tw:Int)(m:Msg):(Fl.send n tw m).table=n.table:=by unfold Fl.send;split<;>rfl
theorem Zt0{i:Int}:i∈all4↔0≤i∧i≤3:=by unfold all4;simp;omega
theorem NI.tells:∀(l:List Int) {n:Nd},(∀i∈l,0≤i∧i≤3)→NI signs rogue k n ms j→Zt1 k n m→NI signs rogue k (l.foldl (Zco m) n) ms j
 |[],_,_,h,_=>h
 |i::l,n,b,h,a=>by
  rw[List.foldl_cons]
  have hi:=b i (by simp)
  unfold Zco
  split
  ·refine NI.tells l (fun x c=>b x (by simp[c])) (h.send hi a.1 a.2) ?_
   unfold Zt1
   rw[Zul]
   exact a
  ·exact NI.tells l (fun x c=>b x (by simp[c])) h a
theorem NI.tell(h:NI signs rogue k n ms j){m:Msg}(a:Zt1 k n m):NI signs rogue k (tell n m) ms j:=NI.tells all4 (fun i hi=>Zt0.1 hi) h a
theorem NI.store(h:NI signs rogue k n ms j)(a:n.up=true)(b:Bat):∃ms',ms <+: ms'∧NI signs rogue k (store n b true).1 ms' j:=by
 unfold Fl.store;split
 ·exact⟨ms,List.prefix_refl _,h⟩
 ·rename_i hn;rw[if_pos rfl];split
  ·rename_i c;refine⟨ms++[batM b],List.prefix_append _ _,h.step c ⟨kno rfl,kno rfl,kno rfl,fun _=>⟨?_,?_⟩,kno rfl,kno rfl⟩ a rfl rfl ?_ rfl rfl rfl rfl rfl rfl rfl (fun s d _=>d)⟩
   ·have hd:(coOf ms).digs=n.digs:=h.digs.symm;have e:(coOf ms).bats=n.bats:=h.bats.symm;rw[hd,e];exact hn
   ·have:=(msgF_zero (Zfw (Zjm h.tap c).1).1).2.2.2.1;simpa[Zea,batM]using this
   unfold Ze4;rw[if_pos (show(batM b).kind=1 from rfl)];show _=Zkj _ b;unfold Zkj;rw[if_neg (show ¬(0≤idxI (fun x=>x==bdR b) (Fl.core n).digs∨(Fl.core n).bats.length=800) from hn)];rfl
  ·exact⟨ms,List.prefix_refl _,h⟩
theorem NI.insert(h:NI signs rogue k n ms j)(a:n.up=true)(c:Crt)(f:insE n.dag c=0→Zmz signs rogue c=0):∃ms',ms <+: ms'∧NI signs rogue k (insert n c true).1 ms' j:=by
 unfold Fl.insert;split
 ·exact⟨ms,List.prefix_refl _,h⟩
 ·rename_i hn;have hn:=Classical.not_not.1 hn;rw[if_pos rfl];split
  ·rename_i b;refine⟨ms++[prfM c],List.prefix_append _ _,h.step b ⟨kno rfl,kno rfl,fun e=>⟨by rw[←h.dag];exact hn,f hn⟩,kno rfl,kno rfl,kno rfl⟩ a rfl rfl ?_ rfl rfl rfl rfl rfl rfl rfl (fun s d _=>d)⟩;unfold Ze4;rw[if_neg (kno rfl:¬(prfM c).kind=1),if_neg (kno rfl:¬(prfM c).kind=2),if_neg (kno rfl:¬(prfM c).kind=3),if_pos (show(prfM c).kind=4 from rfl),if_neg (show ¬insE (Fl.core n).dag (prfM c).crt≠0 from fun q=>q hn)];rfl
  ·exact⟨ms,List.prefix_refl _,h⟩
theorem NI.vote(h:NI signs rogue k n ms j)(d:n.up=true)(x:Hdr)(i:sgn signs rogue x.author (Zck x))(c:x.author≠k) :
 ∃ms',ms <+: ms'∧NI signs rogue k (vote n x).1 ms' j∧((vote n x).2=true→Zck x∈(vote n x).1.table∧Zcz n.table x=Zck x∧hF x=0):=by
 unfold Fl.vote;split
 ·exact⟨ms,List.prefix_refl _,h,fun e=>(by cases e)⟩
 ·rename_i hn;have hn:=Classical.not_not.1 hn;obtain⟨q1,q2,q3,q4⟩:=Zeu hn;split
  ·rename_i a;split
   ·rename_i l
    have e:Zc6 n.table x=n.table++[Zck x]∧n.table.length<400∧∀s∈n.table,¬(s.author=x.author∧s.round=x.round):=by
     rcases q4 with ⟨e,_⟩|q4
     ·rw[e]at a;omega
     ·exact q4
    refine⟨ms++[votM (Zcz n.table x)],List.prefix_append _ _,?_,fun _=>⟨(Zhg hn).2.1,q3,q2⟩⟩;refine h.step l ⟨kno rfl,fun _=>?_,kno rfl,kno rfl,kno rfl,fun _=>by rw[q3];exact c⟩ d rfl rfl ?_ rfl rfl rfl rfl rfl rfl rfl (fun s b g=>?_)
    ·rw[q3,←h.table];exact⟨Zs6 q2,e.2.1,e.2.2,i⟩
    ·unfold Ze4;rw[if_neg (kno rfl:¬(votM (Zcz n.table x)).kind=1),if_neg (kno rfl:¬(votM (Zcz n.table x)).kind=2),if_pos (show(votM (Zcz n.table x)).kind=3 from rfl),q3];show Co.mk _ _ (Zc6 n.table x) _=_;rw[e.1];rfl
    ·have b:s∈Zc6 n.table x:=b;rw[e.1]at b
     rcases List.mem_append.1 b with b|b
     ·exact b
     ·rw[Zv b]at g;exact absurd g c
   ·exact⟨ms,List.prefix_refl _,h,fun e=>(by cases e)⟩
  ·rename_i a
   have e:Zc6 n.table x=n.table:=by
    rcases q4 with ⟨e,_⟩|⟨e,_⟩
    ·exact e
    ·rw[e]at a;simp at a
   have f:=(Zhg hn).2.1;rw[e]at f⊢;exact⟨ms,List.prefix_refl _,h,fun _=>⟨f,q3,q2⟩⟩
theorem Zu2{h:Hdr}(e:Zr1 l h=0):hF h=0:=by
 unfold Zr1 at e;split at e
 ·rename_i q;exact absurd e q
 ·split at e
  ·rename_i q;exact absurd e q
  ·rename_i q;exact Classical.not_not.1 q
theorem NI.offer(g:SI signs rogue)(h:NI signs rogue k n ms j)(d:n.up=true)(x:Hdr):∃ms',ms <+: ms'∧NI signs rogue k (offer signs rogue n x) ms' j:=by
 unfold Fl.offer;split
 ·exact⟨ms,List.prefix_refl _,h⟩
 ·rename_i b;split
  ·exact⟨ms,List.prefix_refl _,h⟩
  ·rename_i f;split
   ·exact⟨ms,List.prefix_refl _,h⟩
   ·simp only[not_or,Bool.not_eq_false,ne_eq,Decidable.not_not]at b f;have e:=Zu2 f.1;have a:=((Zjd g).1 b.2).2;rw[Zxx e]at a;obtain⟨ms',p1,p2,p3⟩:=h.vote d x a (by rw[←h.me];exact b.1);split
    ·rename_i c;obtain⟨r1,r2,r3⟩:=p3 c;refine⟨ms',p1,p2.send (headF_zero e).1 (kno rfl) (fun _=>?_)⟩;show Zcz n.table x∈_;rw[r2];exact r1
    ·exact⟨ms',p1,p2⟩
theorem Zrg{l:List Int}(h:l.Nodup)(g:3≤l.length)(a b:Int):∃v∈l,v≠a∧v≠b:=by
 have f:=List.pairwise_iff_getElem.1 h 0 1 (by omega) (by omega) (by omega);have c:=List.pairwise_iff_getElem.1 h 0 2 (by omega) (by omega) (by omega);have d:=List.pairwise_iff_getElem.1 h 1 2 (by omega) (by omega) (by omega)
 by_cases e0:l[0]=a∨l[0]=b
 ·by_cases e1:l[1]=a∨l[1]=b
  ·refine⟨l[2],List.getElem_mem _,?_,?_⟩<;>intro e2<;>rcases e0 with e0|e0<;>rcases e1 with e1|e1<;>first|exact f (e0.trans e1.symm)|exact c (e0.trans e2.symm)|exact d (e1.trans e2.symm)
  ·exact⟨l[1],List.getElem_mem _,fun e=>e1 (.inl e),fun e=>e1 (.inr e)⟩
 ·exact⟨l[0],List.getElem_mem _,fun e=>e0 (.inl e),fun e=>e0 (.inr e)⟩
theorem Zwm{l:List Int}{v:Int}:v∈Zdk l↔v∈l:=by unfold Zdk;exact List.mem_mergeSort
theorem Zuy(g:SI signs rogue){h:Hdr}{vs:List Int}(b:h.author=k)(c:∀v∈vs,v=k∨sgn signs rogue v (Zck h))(hn:vs.Nodup)(f:3≤vs.length):sgn signs rogue k (Zck h):=by
 obtain⟨v,d,a,i⟩:=Zrg hn f k rogue
 rcases c v d with e|e|e
 ·exact absurd e a
 ·exact absurd e i
 ·rcases g.author _ e with q|q
  ·exact absurd (q.symm.trans b) a
  ·rw[show(Zck h).author=k from b]at q;exact q
theorem NI.addVoter(h:NI signs rogue k n ms j){x:Hdr}(f:n.own=some x){v:Int}(d:sgn signs rogue v (Zck x))(l:0≤v∧v≤3)(hn:v∉n.voters):NI signs rogue k {n with voters:=n.voters++[v] } ms j:=by
 refine⟨⟨h.tap.good,h.tap.tl,h.tap.short,h.tap.jl,h.tap.ty⟩,h.recs,h.core,h.me,h.kr,h.own,fun y c=>?_,?_,h.out,h.turn,h.down,h.last⟩
 ·rcases List.mem_append.1 c with c|c
  ·exact h.voters y c
  ·rw[Zv c];exact .inr ⟨x,f,d⟩
 ·refine⟨?_,fun y c=>?_⟩
  ·show(n.voters++[v]).Nodup;unfold List.Nodup;rw[List.pairwise_append];refine⟨h.once.1,List.pairwise_singleton _ _,fun a g b i=>?_⟩;rw[Zv i];exact fun e=>hn (e▸g)
  ·rcases List.mem_append.1 c with c|c
   ·exact h.once.2 y c
   ·rw[Zv c];exact l
theorem NI.count(i:SI signs rogue)(h:NI signs rogue k n ms j)(p:n.up=true)(src:Int)(s:Slot):∃ms',ms <+: ms'∧NI signs rogue k (count signs rogue n src s) ms' j:=by
 unfold Fl.count;split
 ·exact⟨ms,List.prefix_refl _,h⟩
 ·rename_i x o;obtain⟨o1,o2,o3,o4⟩:=h.own x o;split
  ·exact⟨ms,List.prefix_refl _,h⟩
  ·rename_i f;simp only[not_or,ne_eq,Decidable.not_not]at f;split
   ·exact⟨ms,List.prefix_refl _,h⟩
   ·rename_i m;simp only[not_or,Bool.not_eq_false]at m
    have u:s=Zck x:=by
     obtain⟨a,r,d⟩:=s;simp only at f;unfold Zck;rw[f.1,f.2.1,f.2.2,o3,h.me,o1]
    have g:=((Zjd i).1 m.2.2).2;rw[u]at g;have l:=h.addVoter o g (Znj.1 ((Zjd i).1 m.2.2).1).1 m.2.1;split
    ·exact⟨ms,List.prefix_refl _,l⟩
    ·rename_i z
     have b:∀v∈n.voters++[src],v=k∨sgn signs rogue v (Zck x):=fun v c=>by
      rcases l.voters v c with e|⟨y,e1,e2⟩
      ·exact .inl e
      ·rw[show({ n with voters:=n.voters++[src] }:Nd).own=n.own from rfl,o]at e1;injection e1 with e1;subst e1;exact .inr e2
     have q:=Zuy i o1 b l.once.1 (by omega)
     obtain⟨ms',p1,p2⟩:=l.insert p ⟨x,Zdk (n.voters++[src])⟩ (fun t=>(Zjh i).2 ⟨(Zgv t).2.1,fun v c=>by
      show sgn signs rogue v (Zck x)
      rcases List.mem_append.1 c with c|c
      ·rcases b v (Zwm.1 c)with e|e
       ·rw[e];exact q
       ·exact e
      ·rw[Zv c,show(Crt.mk x (Zdk (n.voters++[src]))).hdr.author=k from o1];exact q⟩)
     split
     ·exact⟨ms',p1,p2.tell ⟨kno rfl,kno rfl⟩⟩
     ·exact⟨ms',p1,p2⟩
theorem Zlg(tw:Int)(n:Nd)(d:List UInt8):(sendB tw n d).table=n.table∧(sendB tw n d).own=n.own∧(sendB tw n d).voters=n.voters∧(sendB tw n d).bats=n.bats∧(sendB tw n d).digs=n.digs:=by
 unfold sendB;split
 ·split
  ·unfold Fl.send;split<;>exact⟨rfl,rfl,rfl,rfl,rfl⟩
  ·exact⟨rfl,rfl,rfl,rfl,rfl⟩
 ·exact⟨rfl,rfl,rfl,rfl,rfl⟩
theorem NI.sendB(h:NI signs rogue k n ms j){tw:Int}(ht:0≤tw∧tw≤3)(d:List UInt8):NI signs rogue k (sendB tw n d) ms j:=by
 unfold Fl.sendB;split
 ·split
  ·exact h.send ht (kno rfl) (kno rfl)
  ·exact h
 ·exact h
theorem NI.sendBs{tw:Int}(ht:0≤tw∧tw≤3):∀(ds:List (List UInt8)) {n:Nd},NI signs rogue k n ms j→NI signs rogue k (ds.foldl (Fl.sendB tw) n) ms j
 |[],_,h=>h
 |d::ds,_,h=>by rw[List.foldl_cons];exact NI.sendBs ht ds (h.sendB ht d)
theorem NI.serve(h:NI signs rogue k n ms j){tw:Int}(ht:0≤tw∧tw≤3)(round:Int):NI signs rogue k (serve n tw round) ms j:=by
 unfold Fl.serve;split
 ·exact h
 ·have:∀(l:List Crt) {n:Nd},NI signs rogue k n ms j→NI signs rogue k (l.foldl (Zhn tw) n) ms j:=by
   intro l
   induction l with
   |nil=>exact fun h=>h
   |cons c l ih =>
    intro n h;rw[List.foldl_cons];exact ih ((NI.sendBs ht _ h).send ht (kno rfl) (kno rfl))
  exact this _ h
theorem NI.come1(b:SI signs rogue)(h:NI signs rogue k n ms j)(a:n.up=true){m:Msg}(c:0≤m.src∧m.src≤3):∃ms',ms <+: ms'∧NI signs rogue k (come1 signs rogue n m) ms' j:=by
 unfold Fl.come1;split
 ·exact h.store a _
 ·split
  ·exact h.offer b a _
  ·split
   ·exact h.count b a _ _
   ·split
    ·split
     ·rename_i hp;exact h.insert a _ (fun _=>hp)
     ·exact⟨ms,List.prefix_refl _,h⟩
    ·split
     ·exact⟨ms,List.prefix_refl _,h.serve c _⟩
     ·exact⟨ms,List.prefix_refl _,h⟩
end
theorem batchB_len{a n:Int}{l:List ByteArray}(h:Zcs a n l=0):(Zfn a n l).length≤89:=by
 obtain⟨_,_,_,q4,q5⟩:=batchF_zero h;have:=texts_len l (fun s b=>(q5 s b).2);simp only[Zfn,Zca,Zl,Zu,List.length_nil];omega
def workA(i:Int):At:=⟨2,i,0,ByteArray.empty⟩
def flowA:At:=⟨10,0,0,ByteArray.empty⟩
end Fl
end Go.Proofs.YtbcpbnfojfiekaaGreatDoor
