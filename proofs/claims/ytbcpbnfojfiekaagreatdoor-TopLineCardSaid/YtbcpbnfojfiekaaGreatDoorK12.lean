/- A part of what the last text stands on. -/
import Derived.Test.YtbcpbnfojfiekaaGreatDoorK09
import Derived.Test.YtbcpbnfojfiekaaGreatDoorK10
import Derived.Test.YtbcpbnfojfiekaaGreatDoorK11
namespace Go.Proofs.YtbcpbnfojfiekaaGreatDoor
open Go.ChangeShapes Go.WideShapes Go.ChangeAt Go.RowKit Go.Proofs.Tryz Qa Qb Qc
set_option linter.all false
set_option maxHeartbeats 20000000
set_option maxRecDepth 100000
variable{h:View}{i g:Nat}{m:Msg}
theorem digs_one{d:Value}{x:List UInt8}(a:h ⟨g,0,none⟩=some d)(hd:Zan h d x):RDigs h (.slice (some ⟨g,0,none⟩) 1 1) [x] :=
 ⟨_,_,rfl,by simp,by decide,by simp,(fun h=>by cases h),fun _=>⟨g,0,rfl,fun i hi=>by
  have:i=0:=by simp at hi;exact hi
  subst this
  exact⟨[d],rfl,fun j b=>by
   have:j=0:=by omega
   subst this;simpa using a,d,rfl,by simpa using hd⟩⟩⟩
theorem Zk1:∀(l:List ByteArray),l.all txOk=true→(Zbg l).length≤l.length*21
 |[],_=>by simp[Zbg]
 |s::l,h=>by
  rw[List.all_cons,Bool.and_eq_true]at h
  have ih:=Zk1 l h.2
  have a:s.size≤20:=by have:=h.1;simp[txOk]at this;omega
  have e:Zbg (s::l)=(Zaq s.size::Zb9 s)++Zbg l:=rfl
  rw[e,Zl,Zu,Zu,Zci]
  omega
theorem batchF_zero{a n:Int}{l:List ByteArray}(h:Zcs a n l=0):1≤n∧n≤1048576∧(Zbg l).length≤84:=by
 unfold Zcs at h;split at h
 ·cases h
 ·rename_i b;split at h
  ·cases h
  ·split at h
   ·rename_i e c;have d:=Zk1 l c
    have hn:inB n 1 1048576=true:=by
     cases hq:inB n 1 1048576
     ·simp[hq]at b
     ·rfl
    simp[inB]at hn;omega
   ·cases h
theorem digsF_zero{l:List (List UInt8)}(h:Ze3 l=0):∀k (b:k<l.length),l[k].length=32:=by
 intro k b;refine Classical.byContradiction fun c=>?_
 have d:=Zq0 b c;unfold Ze3 at h;split at h
 ·rename_i i hi;have:=(List.find?_eq_some_iff_append.1 hi).1;simp[h]at this
 ·rename_i a;rw[List.find?_eq_none]at a;have:=a k (List.mem_range.2 b);simp[d]at this
theorem Zsl:∀(l:List (List UInt8)),(∀k (b:k<l.length),l[k].length=32)→l.flatten.length=32*l.length
 |[],_=>rfl
 |x::l,h=>by
  have a:=h 0 (by simp)
  simp only[List.getElem_cons_zero]at a
  have ih:=Zsl l (fun k b=>by have:=h (k+1) (by simp;omega);simpa using this)
  rw[List.flatten_cons,Zl,a,ih,Zu]
  omega
theorem headF_zero{a r:Int}{b p:List (List UInt8)}(h:Zb5 a r b p=0):1≤r∧r≤1048576∧b.flatten.length≤96∧p.flatten.length≤128:=by
 unfold Zb5 at h;split at h
 ·rename_i e;split at h
  ·cases h
  ·rename_i f;split at h
   ·rename_i d;exact absurd h d
   ·rename_i d;split at h
    ·rename_i c;exact absurd h c
    ·rename_i c;have g:=Zsl b (digsF_zero (Classical.not_not.1 d));have hp:=Zsl p (digsF_zero (Classical.not_not.1 c));simp[inB]at e;omega
 ·cases h
theorem Zu9{a r:Int}{b p:List (List UInt8)}(h:Zb5 a r b p=0):(∀k (e:k<b.length),b[k].length=32)∧(∀k (e:k<p.length),p[k].length=32):=by
 unfold Zb5 at h;split at h
 ·split at h
  ·cases h
  ·split at h
   ·rename_i d;exact absurd h d
   ·rename_i d;split at h
    ·rename_i c;exact absurd h c
    ·rename_i c;exact⟨digsF_zero (Classical.not_not.1 d),digsF_zero (Classical.not_not.1 c)⟩
 ·cases h
theorem headerB_len(a r:Int)(b p:List (List UInt8)):(Zcd a r b p).length=6+b.flatten.length+p.flatten.length:=by
 simp only[Zcd,Zeg,Zca,Zl,Zu,List.length_nil];omega
theorem batchB_len(a n:Int)(l:List ByteArray):(Zfn a n l).length=5+(Zbg l).length:=by
 simp only[Zfn,Zca,Zl,Zu,List.length_nil]
def Zdo(m:Msg):List UInt8 :=
 if m.kind=1 then Zfn m.bat.author m.bat.number m.bat.txs else if m.kind=2 then Zcd m.hdr.author m.hdr.round m.hdr.batches m.hdr.parents
 else if m.kind=3 then((Zaq m.slt.author::Zca m.slt.round)++m.slt.digest)
 else if m.kind=4 then(Zcd m.crt.hdr.author m.crt.hdr.round m.crt.hdr.batches m.crt.hdr.parents++(Zaq m.crt.voters.length::m.crt.voters.map Zaq))else Zca m.round
def msgB(m:Msg):List UInt8:=[Zaq m.kind,Zaq m.src,Zaq m.dst]++Zdo m
def Zrz(m:Msg):List UInt8:=if msgF m=0 then msgB m else []
theorem msgF_zero(h:msgF m=0):(m.kind=1∨m.kind=2∨m.kind=3∨m.kind=4∨m.kind=5)∧Zea m=0:=by
 unfold msgF at h;split at h
 ·split at h
  ·rename_i b;split at h
   ·rename_i a;exact absurd h a
   ·rename_i a;refine⟨?_,Classical.not_not.1 a⟩;simp[inB]at b;omega
  ·cases h
 ·cases h
theorem body_1(a:m.kind=1)(h:msgF m=0):Zcs m.bat.author m.bat.number m.bat.txs=0:=by have:=(msgF_zero h).2;simpa[Zea,a]using this
theorem body_2(a:m.kind=2)(h:msgF m=0):Zb5 m.hdr.author m.hdr.round m.hdr.batches m.hdr.parents=0:=by have:=(msgF_zero h).2;simpa[Zea,a]using this
theorem body_3(a:m.kind=3)(h:msgF m=0):Zgm m.slt.author m.slt.round m.slt.digest.length=0:=by have:=(msgF_zero h).2;simpa[Zea,a]using this
theorem body_4(a:m.kind=4)(h:msgF m=0):Zhk m.crt.hdr.author m.crt.hdr.round m.crt.hdr.batches m.crt.hdr.parents m.crt.voters=0:=by have:=(msgF_zero h).2;simpa[Zea,a]using this
theorem body_5(a:m.kind=5)(h:msgF m=0):1≤m.round∧m.round≤1048576:=by
 have:=(msgF_zero h).2;simp[Zea,a]at this;simpa[inB]using this
theorem slotF_zero{a r:Int}{l:Nat}(h:Zgm a r l=0):1≤r∧r≤1048576∧l=32:=by
 unfold Zgm at h;split at h
 ·cases h
 ·rename_i b;split at h
  ·cases h
  ·rename_i c;simp[inB]at b;omega
theorem certF_zero{a r:Int}{b p:List (List UInt8)}{vs:List Int}(h:Zhk a r b p vs=0):1≤r∧r≤1048576∧b.flatten.length≤96∧p.flatten.length≤128∧(∀k (d:k<b.length),0<b[k].length)∧(∀k (d:k<p.length),0<p[k].length)∧vs.length≤4:=by
 unfold Zhk at h;split at h
 ·rename_i c;exact absurd h c
 ·rename_i c;have c:=Classical.not_not.1 c;obtain⟨q0,q1,q2,q3⟩:=headF_zero c;obtain⟨d1,d2⟩:=Zu9 c;refine⟨q0,q1,q2,q3,fun k d=>by have:=d1 k d;omega,fun k d=>by have:=d2 k d;omega,?_⟩;split at h
  ·cases h
  ·omega
namespace Kp
theorem below_2(w:World)(o1 o2:Obj):Below w.heap.size w ((w.alloc o1).alloc o2):=((Zm _ _).alloc (Za _) _).alloc (Zar _ (Za _)) _
theorem Zs9(va vb:Value)(a b:List UInt8)(w:World)(c:Zan w.cell? va a)(d:Zan w.cell? vb b) :
 Calls prog 69 #[va,vb] w fun e w'=>e=.returned (.bool (a==b))∧w=w':=by
 have ga:=Zd3 c;have gb:=Zd3 d;have f:=Zb (Zyo a b);clear c d;go_enter func69,ntmps69;go_wp2;go_ret;exact⟨Zao f.out,rfl⟩
theorem Zmu(va vb:Value)(l:List ByteArray)(w:World)(s:RTexts w.cell? va l)(r:RTexts w.cell? vb l) :
 Calls prog 68 #[va,vb] w fun e w'=>e=.returned (.bool true)∧Below w.heap.size w w':=by
 obtain⟨A,c,rfl,q,m⟩:=s.form;obtain⟨B,d,rfl,_,g⟩:=r.form;have p:=Zb m;have n:=Zb g;clear m g s r;go_enter func68,ntmps68;go_wp2
 go_loopw [5] (fun i wr=>∃k:Nat,k≤l.length∧i=.int .i64 k∧Below w.heap.size w wr) (fun i _=>l.length-(intOf i).toNat)
 case atStart=>exact⟨0,Zf _,rfl,Zm _ _⟩
 case round =>
  obtain⟨k,t,rfl,b⟩:=hrel
  by_cases j:k<l.length
  ·obtain⟨b0,o0,rfl,f⟩:=p.out k j;obtain⟨b1,o1,rfl,a⟩:=n.out k j;have c1:wr.cell? ⟨b0,o0+k,none⟩=some (.string l[k]):=Zaa b _ _ f;have c2:wr.cell? ⟨b1,o1+k,none⟩=some (.string l[k]):=Zaa b _ _ a;clear f a;go_wp2
   refine Zch (fun w'=>Below wr.heap.size wr w') [(0,true),(1,true),(2,true),(3,true),(4,true),(5,true),(6,true),(7,true),(8,true)] (by kernel_rfl) (by kernel_rfl) (fun _ _ d _ _ h=>by cases d<;>exact h) rfl (by kernel_rfl) ?_ ?_
   ·exact Zad _
   intro W1 o
   repeat((first|refine Zbd rfl rfl ⟨_,fun w' o=>by(have u:=Zaa o _ _ c1;have v:=Zaa o _ _ c2;go_simp;exact rfl),?_⟩|refine Zbi (by assumption) rfl rfl ?_);simp only[sx])
   refine Zeq ?_;go_wp2;go_roundw
   case rel=>exact⟨k+1,by omega,by go_num,b.trans (o.mono b.size)⟩
   case measure=>simp[intOf];omega
  ·go_wp2;go_ret;exact⟨rfl,b⟩
theorem Zmv(a r:Int)(va vb:Value)(l:List ByteArray)(w:World)(c:RTexts w.cell? va l)(d:RTexts w.cell? vb l) :
 Calls prog 40 #[.agg #[.int .i64 a,.int .i64 r,va],.agg #[.int .i64 a,.int .i64 r,vb]] w fun e w'=>e=.returned (.bool true)∧Below w.heap.size w w':=by
 go_enter func40,ntmps40;go_wp2_with fail
 refine(Zmu _ _ l _ (c.mono (Zaa (below_2 _ _ _))) (d.mono (Zaa (below_2 _ _ _)))).mono ?_;rintro e w1 ⟨rfl,b⟩;go_wp2;go_ret;exact⟨rfl,(below_2 _ _ _).trans (b.mono (by simp;omega))⟩
theorem Zhp(va vb:Value)(l:List (List UInt8))(w:World)(r:RDigs w.cell? va l)(p:RDigs w.cell? vb l) :
 Calls prog 109 #[va,vb] w fun e w'=>e=.returned (.bool true)∧Below w.heap.size w w':=by
 obtain⟨A,c,rfl,_⟩:=id r;obtain⟨B,d,rfl,_⟩:=id p;obtain⟨_,_,t,n⟩:=r.at;obtain⟨_,_,_,g⟩:=p.at;have s:=Zb n;have o:=Zb g;clear n g r p;go_enter func109,ntmps109;go_wp2
 go_loopw [5] (fun i wr=>∃k:Nat,k≤l.length∧i=.int .i64 k∧Below w.heap.size w wr) (fun i _=>l.length-(intOf i).toNat)
 case atStart=>exact⟨0,Zf _,rfl,Zm _ _⟩
 case round =>
  obtain⟨k,v,rfl,a⟩:=hrel
  by_cases m:k<l.length
  ·obtain⟨b0,o0,d0,rfl,e0,b⟩:=s.out k m;obtain⟨b1,o1,d1,rfl,e1,f⟩:=o.out k m;have c0:=Zaa a _ _ e0;have c1:=Zaa a _ _ e1;have b:=b.mono (Zaa a);have f:=f.mono (Zaa a);generalize l[k]=x at b f;clear e0 e1;go_upto_region 6 with fail;refine Zr [] (.q 0 (.q 1 (.q 2 (.q 3 (.q 4 (.q 5 (.q 6 (.q 7 (.l 8 (.q 9 .nil)))))))))) fun W j=>?_
   repeat((first|refine pq (h:=⟨_,fun w' j=>by(have q:=Zaa j;have a0:=q _ _ c0;have a1:=q _ _ c1;go_simp;exact rfl),?_⟩)|refine Zq ?_);simp only[sx])
   refine Zd fun K u=>?_
   try simp only[sy]
   go_simp;refine(Zs9 _ _ x x _ (b.mono (Zaa j)) (f.mono (Zaa j))).mono ?_;rintro e w5 ⟨rfl,rfl⟩;rw[show(x==x)=true from beq_self_eq_true x];refine u.out _ _ (j) fun j=>?_
   clear u K
   try simp only[sx]
   repeat(refine Zq ?_;simp only[sx])
   refine Zai ?_;go_wp2;go_roundw
   case rel=>exact⟨k+1,by omega,by go_num,a.trans (j.mono a.size)⟩
   case measure=>simp[intOf];omega
  ·go_wp2;go_ret;exact⟨rfl,a⟩
theorem Zli(a r:Int)(vb vp vb' vp':Value)(b p:List (List UInt8))(w:World)(n:RDigs w.cell? vb b)(hp:RDigs w.cell? vp p)(i:RDigs w.cell? vb' b)(l:RDigs w.cell? vp' p) :
 Calls prog 66 #[.agg #[.int .i64 a,.int .i64 r,vb,vp],.agg #[.int .i64 a,.int .i64 r,vb',vp']] w fun e w'=>e=.returned (.bool true)∧Below w.heap.size w w':=by
 go_enter func66,ntmps66;go_wp2_with fail
 refine Za8 _ _ _ _ _ (fun W=>Calls prog _ _ W _) (fun W k g m d=>?_);have q:=Zaa d;refine(Zhp _ _ b _ (n.mono Ze q) (i.mono Ze q)).mono ?_;rintro e w1 ⟨rfl,f⟩;have c:=d.trans (f.mono d.size);have g3:=(k.kept f).cell 3;have f3:=(g.kept f).cell 3;simp at g3 f3;have q:=Zaa c;go_wp2_with fail;refine(Zhp _ _ p _ (hp.mono Ze q) (l.mono Ze q)).mono ?_;rintro e w2 ⟨rfl,j⟩;go_wp2;go_ret;exact⟨rfl,c.trans (j.mono c.size)⟩
theorem Zol(va vb:Value)(l:List Int)(w:World)(o:RIs w.cell? va l)(n:RIs w.cell? vb l) :
 Calls prog 67 #[va,vb] w fun e w'=>e=.returned (.bool true)∧Below w.heap.size w w':=by
 obtain⟨A,c,rfl,_⟩:=id o;obtain⟨B,d,rfl,_⟩:=id n;obtain⟨_,_,r,g⟩:=o.at;obtain⟨_,_,_,b⟩:=n.at;have p:=Zb g;have j:=Zb b;clear g b o n;go_enter func67,ntmps67;go_wp2
 go_loopw [5] (fun i wr=>∃k:Nat,k≤l.length∧i=.int .i64 k∧Below w.heap.size w wr) (fun i _=>l.length-(intOf i).toNat)
 case atStart=>exact⟨0,Zf _,rfl,Zm _ _⟩
 case round =>
  obtain⟨k,s,rfl,a⟩:=hrel
  by_cases f:k<l.length
  ·obtain⟨b0,o0,rfl,e0⟩:=p.out k f;obtain⟨b1,o1,rfl,e1⟩:=j.out k f;have c0:=Zaa a _ _ e0;have c1:=Zaa a _ _ e1;generalize l[k]=x at c0 c1;clear e0 e1;go_wp2;refine Zr [] (.q 0 (.q 1 (.q 2 (.q 3 (.q 4 (.q 5 (.q 6 (.q 7 (.q 8 .nil))))))))) fun W m=>?_
   repeat((first|refine pq (h:=⟨_,fun w' m=>by(have q:=Zaa m;have a0:=q _ _ c0;have a1:=q _ _ c1;go_simp;exact rfl),?_⟩)|refine Zq ?_);simp only[sx])
   refine Zai ?_;go_wp2;go_roundw
   case rel=>exact⟨k+1,by omega,by go_num,a.trans (m.mono a.size)⟩
   case measure=>simp[intOf];omega
  ·go_wp2;go_ret;exact⟨rfl,a⟩
theorem Zom(a r:Int)(vb vp vv vb' vp' vv':Value)(b p:List (List UInt8))(vs:List Int)(w:World)(s:RDigs w.cell? vb b)(hp:RDigs w.cell? vp p)(n:RIs w.cell? vv vs)(j:RDigs w.cell? vb' b)(m:RDigs w.cell? vp' p)(i:RIs w.cell? vv' vs) :
 Calls prog 39 #[.agg #[.int .i64 a,.int .i64 r,vb,vp,vv],.agg #[.int .i64 a,.int .i64 r,vb',vp',vv']] w fun e w'=>e=.returned (.bool true)∧Below w.heap.size w w':=by
 go_enter func39,ntmps39;go_wp2_with fail
 refine Za8 _ _ _ _ _ (fun W=>Calls prog _ _ W _) (fun W l g o d=>?_);have q:=Zaa d;refine(Zli a r _ _ _ _ b p _ (s.mono Ze q) (hp.mono Ze q) (j.mono Ze q) (m.mono Ze q)).mono ?_;rintro e w1 ⟨rfl,f⟩;have c:=d.trans (f.mono d.size);have g4:=(l.kept f).cell 4;have f4:=(g.kept f).cell 4;simp at g4 f4;have q:=Zaa c;go_wp2_with fail;refine(Zol _ _ vs _ (n.mono q) (i.mono q)).mono ?_;rintro e w2 ⟨rfl,k⟩;go_wp2;go_ret;exact⟨rfl,c.trans (k.mono c.size)⟩
theorem Zo9(a r:Int)(vb vp vv vb' vp' vv':Value)(b p:List (List UInt8))(vs:List Int)(w:World)(m:RDigs w.cell? vb b)(hp:RDigs w.cell? vp p)(j:RIs w.cell? vv vs)(g:RDigs w.cell? vb' b)(i:RDigs w.cell? vp' p)(f:RIs w.cell? vv' vs) :
 Calls prog 21 #[.agg #[.int .i64 a,.int .i64 r,vb,vp,vv],.agg #[.int .i64 a,.int .i64 r,vb',vp',vv']] w fun e w'=>e=.returned (.bool true)∧Below w.heap.size w w':=by
 go_enter func21,ntmps21;go_wp2_with fail
 refine Za8 _ _ _ _ _ (fun W=>Calls prog _ _ W _) (fun W n k l c=>?_);have q:=Zaa c;refine(Zom a r _ _ _ _ _ _ b p vs _ (m.mono Ze q) (hp.mono Ze q) (j.mono q) (g.mono Ze q) (i.mono Ze q) (f.mono q)).mono ?_;rintro e w1 ⟨rfl,d⟩;go_wp2;go_ret;exact⟨rfl,c.trans (d.mono c.size)⟩
theorem Zm3(a r:Int)(va vb:Value)(l:List ByteArray)(w:World)(g:RTexts w.cell? va l)(i:RTexts w.cell? vb l) :
 Calls prog 22 #[.agg #[.int .i64 a,.int .i64 r,va],.agg #[.int .i64 a,.int .i64 r,vb]] w fun e w'=>e=.returned (.bool true)∧Below w.heap.size w w':=by
 go_enter func22,ntmps22;go_wp2_with fail
 refine Za8 _ _ _ _ _ (fun W=>Calls prog _ _ W _) (fun W j d f b=>?_);have q:=Zaa b;refine(Zmv a r _ _ l _ (g.mono q) (i.mono q)).mono ?_;rintro e w1 ⟨rfl,c⟩;go_wp2;go_ret;exact⟨rfl,b.trans (c.mono b.size)⟩
def Znh(x y:Slot):Bool:=decide (x.author=y.author∧x.round=y.round)&&(x.digest==y.digest)
theorem Zrl(x:Slot):Znh x x=true:=by unfold Znh;simp
theorem Zp5(x y:Slot)(va vb:Value)(w:World)(f:Zan w.cell? va x.digest)(d:Zan w.cell? vb y.digest) :
 Calls prog 41 #[.agg #[.int .i64 x.author,.int .i64 x.round,va],.agg #[.int .i64 y.author,.int .i64 y.round,vb]] w fun e w'=>e=.returned (.bool (Znh x y))∧Below w.heap.size w w':=by
 obtain⟨Q,g⟩:∃q,Hid (Znh x y=q):=⟨_,rfl⟩;rw[g.out];have b:Hid (Q=(decide (x.author=y.author∧x.round=y.round)&&(x.digest==y.digest))):=g.out.symm;clear g;obtain⟨xa,xr,xd⟩:=x;obtain⟨ya,yr,yd⟩:=y;simp only at f d b⊢
 by_cases i:xa=ya
 ·subst i
  by_cases j:xr=yr
  ·subst j;have a:Hid ((xd==yd)=Q):=by show _=_;rw[b.out];simp
   clear b;go_enter func41,ntmps41;go_wp2_with fail;refine Za8 _ _ _ _ _ (fun W=>Calls prog _ _ W _) (fun W o l m c=>?_);have q:=Zaa c;refine(Zs9 _ _ xd yd _ (f.mono q) (d.mono q)).mono ?_;rintro e w1 ⟨rfl,rfl⟩;rw[a.out];go_wp2;go_ret;exact⟨rfl,c⟩
  ·have a:Hid (Q=false):=by show _=_;rw[b.out];simp[j]
   have k:(xr==yr)=false:=by simpa using j
   clear b f d;go_enter func41,ntmps41;go_wp2;go_ret;exact⟨Zao a.out.symm,below_2 _ _ _⟩
 ·have a:Hid (Q=false):=by show _=_;rw[b.out];simp[i]
  have n:(xa==ya)=false:=by simpa using i
  clear b f d;go_enter func41,ntmps41;go_wp2;go_ret;exact⟨Zao a.out.symm,below_2 _ _ _⟩
theorem Zpz(x y:Slot)(va vb:Value)(w:World)(g:Zan w.cell? va x.digest)(i:Zan w.cell? vb y.digest) :
 Calls prog 23 #[.agg #[.int .i64 x.author,.int .i64 x.round,va],.agg #[.int .i64 y.author,.int .i64 y.round,vb]] w fun e w'=>e=.returned (.bool (Znh x y))∧Below w.heap.size w w':=by
 obtain⟨Q,b⟩:∃q,Hid (Znh x y=q):=⟨_,rfl⟩;rw[b.out];have h:=Zp5 x y va vb;rw[b.out]at h;have H:=Zb h;clear h b;obtain⟨xa,xr,xd⟩:=x;obtain⟨ya,yr,yd⟩:=y;go_enter func23,ntmps23;go_wp2_with fail;refine Za8 _ _ _ _ _ (fun W=>Calls prog _ _ W _) (fun W j d f a=>?_);have q:=Zaa a;refine(H.out _ (g.mono q) (i.mono q)).mono ?_;rintro e w1 ⟨rfl,c⟩;go_wp2;go_ret;exact⟨rfl,a.trans (c.mono a.size)⟩
end Kp
namespace Kp
theorem sameKnown_any(u1 u2:Bool)(r:Int)(vc vb vv vp vc' vb' vv' vp':Value)(cs:List Crt)(bs:List Bat)(ts:List Slot)(w:World)(rc:RCrts w.cell? vc cs)(rb:RBats w.cell? vb bs)(rv:RSlots w.cell? vv ts)(rc':RCrts w.cell? vc' cs)(rb':RBats w.cell? vb' bs)(rv':RSlots w.cell? vv' ts)(hp:∃A n c,vp=.slice A n c)(J:∃A n c,vp'=.slice A n c) :
 Calls prog 9 #[.agg #[.bool u1,.int .i64 r,vc,vb,vv,vp],.agg #[.bool u2,.int .i64 r,vc',vb',vv',vp']] w fun e w'=>e=.returned (.bool true)∧Below w.heap.size w w':=by
 obtain⟨C1,c1,rfl,f1⟩:=id rc;obtain⟨B1,b1,rfl,f2⟩:=id rb;obtain⟨S1,s1,rfl,f3⟩:=id rv;obtain⟨C2,c2,rfl,f4⟩:=id rc';obtain⟨B2,b2,rfl,f5⟩:=id rb';obtain⟨S2,s2,rfl,f6⟩:=id rv';obtain⟨P1,n1,p1,rfl⟩:=hp;obtain⟨P2,n2,p2,rfl⟩:=J;clear f1 f2 f3 f4 f5 f6;obtain⟨_,_,Q,z⟩:=rc.at;obtain⟨_,_,_,D⟩:=rc'.at;obtain⟨_,_,a,B⟩:=rb.at;obtain⟨_,_,_,o⟩:=rb'.at;obtain⟨_,_,O,C⟩:=rv.at;obtain⟨_,_,_,y⟩:=rv'.at;have G:=Zb z;have H:=Zb D;have L:=Zb B;have N:=Zb o;have I:=Zb C;have M:=Zb y;clear z D B o C y rc rb rv rc' rb' rv';go_enter func9,ntmps9;go_upto_region 1 with fail;refine Za8 _ _ _ _ _ (fun W=>Code.wp _ _ _ _ W) (fun W g f P u=>?_);have x1:=g.cell 1;have y1:=f.cell 1;have x2:=g.cell 2;have y2:=f.cell 2;have x3:=g.cell 3;have y3:=f.cell 3;have x4:=g.cell 4;have y4:=f.cell 4;simp at x1 y1 x2 y2 x3 y3 x4 y4;have E:=u.size;go_wp2_with fail
 go_loopw [5] (fun i wr=>∃k:Nat,k≤cs.length∧i=.int .i64 k∧Below W.heap.size W wr) (fun i _=>cs.length-(intOf i).toNat)
 case atStart=>exact⟨0,Zf _,rfl,Zm _ _⟩
 case round =>
  obtain⟨k,F,rfl,a⟩:=hrel;have t:=a.size;have m1:=(g.kept a).cell 2;have m2:=(f.kept a).cell 2;simp at m1 m2
  by_cases j:k<cs.length
  ·have b:=Zaa (u.trans (a.mono E));have m:=g.kept a;have p:=f.kept a;obtain⟨b0,o0,xb,xp,xv,rfl,e0,e1,e2,e3,e4,r1,r2,r3⟩:=G.out k j;obtain⟨b9,o9,yb,yp,yv,rfl,g0,g1,g2,g3,g4,t1,t2,t3⟩:=H.out k j;have e0:=b _ _ e0;have e1:=b _ _ e1;have e2:=b _ _ e2;have e3:=b _ _ e3;have e4:=b _ _ e4;have g0:=b _ _ g0;have g1:=b _ _ g1;have g2:=b _ _ g2;have g3:=b _ _ g3;have g4:=b _ _ g4;have s:(k:Int)<cs.length:=by omega
   generalize cs[k]=x at *;go_upto_region 6 with fail;clear m1 m2;refine Zr [] (.q 0 (.q 1 (.q 2 (.q 3 (.q 4 (.q 5 (.q 6 (.q 7 (.q 8 (.q 9 (.l 10 (.q 11 .nil)))))))))))) fun W5 d=>?_
   repeat((first|refine pq (h:=⟨_,fun w' d=>by(have q:=Zaa d;have z1:=(m.kept d).cell 2;have z2:=(p.kept d).cell 2;simp at z1 z2;have i0:=q _ _ e0;have j0:=q _ _ g0;have i1:=q _ _ e1;have j1:=q _ _ g1;have i2:=q _ _ e2;have j2:=q _ _ g2;have i3:=q _ _ e3;have j3:=q _ _ g3;have i4:=q _ _ e4;have j4:=q _ _ g4;go_simp;exact rfl),?_⟩)|refine Zq ?_);simp only[sx])
   refine Zd fun K v=>?_
   try simp only[sy]
   go_simp;have qq:=b.trans (Zaa d);refine(Zo9 _ _ _ _ _ _ _ _ x.hdr.batches x.hdr.parents x.voters _ (r1.mono Ze qq) (r2.mono Ze qq) (r3.mono qq) (t1.mono Ze qq) (t2.mono Ze qq) (t3.mono qq)).mono ?_;rintro e w2 ⟨rfl,o⟩;refine v.out _ _ (d.trans (o.mono d.size)) fun d=>?_
   clear v K
   try simp only[sx]
   repeat(refine Zq ?_;simp only[sx])
   refine Zai ?_;go_wp2;go_roundw
   case rel=>exact⟨k+1,by omega,by go_num,a.trans (d.mono t)⟩
   case measure=>simp[intOf];omega
  ·have s:¬(k:Int)<cs.length:=by omega
   clear F j;have n1:=(g.kept a).cell 3;have n2:=(f.kept a).cell 3;simp at n1 n2;go_wp2_with fail
   go_loopw [6] (fun i wr=>∃k:Nat,k≤bs.length∧i=.int .i64 k∧Below W.heap.size W wr) (fun i _=>bs.length-(intOf i).toNat)
   case atStart=>exact⟨0,Zf _,rfl,a⟩
   case round =>
    clear a t s m1 m2 n1 n2;obtain⟨k,F,rfl,a⟩:=hrel;have t:=a.size;have m1:=(g.kept a).cell 3;have m2:=(f.kept a).cell 3;simp at m1 m2
    by_cases j:k<bs.length
    ·have b:=Zaa (u.trans (a.mono E));have m:=g.kept a;have p:=f.kept a;obtain⟨b0,o0,xv,rfl,e0,e1,e2,r1,_⟩:=L.out k j;obtain⟨b9,o9,yv,rfl,g0,g1,g2,t1,_⟩:=N.out k j;have e0:=b _ _ e0;have e1:=b _ _ e1;have e2:=b _ _ e2;have g0:=b _ _ g0;have g1:=b _ _ g1;have g2:=b _ _ g2;have s:(k:Int)<bs.length:=by omega
     generalize bs[k]=x at *;go_upto_region 11 with fail;clear m1 m2;refine Zr [] (.q 0 (.q 1 (.q 2 (.q 3 (.q 4 (.q 5 (.q 6 (.q 7 (.q 8 (.q 9 (.l 10 (.q 11 .nil)))))))))))) fun W5 d=>?_
     repeat((first|refine pq (h:=⟨_,fun w' d=>by(have q:=Zaa d;have z1:=(m.kept d).cell 3;have z2:=(p.kept d).cell 3;simp at z1 z2;have i0:=q _ _ e0;have j0:=q _ _ g0;have i1:=q _ _ e1;have j1:=q _ _ g1;have i2:=q _ _ e2;have j2:=q _ _ g2;go_simp;exact rfl),?_⟩)|refine Zq ?_);simp only[sx])
     refine Zd fun K v=>?_
     try simp only[sy]
     go_simp;have qq:=b.trans (Zaa d);refine(Zm3 _ _ _ _ x.txs _ (r1.mono qq) (t1.mono qq)).mono ?_;rintro e w2 ⟨rfl,o⟩;refine v.out _ _ (d.trans (o.mono d.size)) fun d=>?_
     clear v K
     try simp only[sx]
     repeat(refine Zq ?_;simp only[sx])
     refine Zai ?_;go_wp2;go_roundw
     case rel=>exact⟨k+1,by omega,by go_num,a.trans (d.mono t)⟩
     case measure=>simp[intOf];omega
    ·have s:¬(k:Int)<bs.length:=by omega
     clear F j;have n1:=(g.kept a).cell 4;have n2:=(f.kept a).cell 4;simp at n1 n2;go_wp2_with fail
     go_loopw [7] (fun i wr=>∃k:Nat,k≤ts.length∧i=.int .i64 k∧Below W.heap.size W wr) (fun i _=>ts.length-(intOf i).toNat)
     case atStart=>exact⟨0,Zf _,rfl,a⟩
     case round =>
      clear a t s m1 m2 n1 n2;obtain⟨k,F,rfl,a⟩:=hrel;have t:=a.size;have m1:=(g.kept a).cell 4;have m2:=(f.kept a).cell 4;simp at m1 m2
      by_cases j:k<ts.length
      ·have b:=Zaa (u.trans (a.mono E));have m:=g.kept a;have p:=f.kept a;obtain⟨b0,o0,xv,rfl,e0,e1,e2,r1⟩:=I.out k j;obtain⟨b9,o9,yv,rfl,g0,g1,g2,t1⟩:=M.out k j;have e0:=b _ _ e0;have e1:=b _ _ e1;have e2:=b _ _ e2;have g0:=b _ _ g0;have g1:=b _ _ g1;have g2:=b _ _ g2;have s:(k:Int)<ts.length:=by omega
       generalize ts[k]=x at *;go_upto_region 16 with fail;clear m1 m2;refine Zr [] (.q 0 (.q 1 (.q 2 (.q 3 (.q 4 (.q 5 (.q 6 (.q 7 (.q 8 (.q 9 (.l 10 (.q 11 .nil)))))))))))) fun W5 d=>?_
       repeat((first|refine pq (h:=⟨_,fun w' d=>by(have q:=Zaa d;have z1:=(m.kept d).cell 4;have z2:=(p.kept d).cell 4;simp at z1 z2;have i0:=q _ _ e0;have j0:=q _ _ g0;have i1:=q _ _ e1;have j1:=q _ _ g1;have i2:=q _ _ e2;have j2:=q _ _ g2;go_simp;exact rfl),?_⟩)|refine Zq ?_);simp only[sx])
       refine Zd fun K v=>?_
       try simp only[sy]
       go_simp;have qq:=b.trans (Zaa d);refine(Zpz x x _ _ _ (r1.mono qq) (t1.mono qq)).mono ?_;rintro e w2 ⟨rfl,o⟩;rw[Zrl];refine v.out _ _ (d.trans (o.mono d.size)) fun d=>?_
       clear v K
       try simp only[sx]
       repeat(refine Zq ?_;simp only[sx])
       refine Zai ?_;go_wp2;go_roundw
       case rel=>exact⟨k+1,by omega,by go_num,a.trans (d.mono t)⟩
       case measure=>simp[intOf];omega
      ·have s:¬(k:Int)<ts.length:=by omega
       go_wp2;go_ret;exact⟨rfl,u.trans (a.mono E)⟩
end Kp
namespace Ln
def RdOut(R:List Ac×Nat×Int)(w:World)(e:Ending)(w':World):Prop:=(∃v,e=.returned (.tuple #[v,.int .i64 R.2.1,.int .i64 R.2.2])∧RActs w'.cell? v R.1)∧Below w.heap.size w w'
theorem Zpm:∀(l t:List UInt8),Zbx l=some t→t.length≤l.length
 |[],t,h=>by simp[Zbx]at h;subst h;exact Za _
 |[_],t,h=>by simp[Zbx]at h
 |a::b::r,t,h=>by
  unfold Zbx at h
  split at h
  ·rename_i q1 q2 q3
   injection h with h
   subst h
   have:=Zpm r _ q3
   simp;omega
  ·cases h
theorem Zr5{f:List UInt8→Option Int}{l:List UInt8}{a:Ac}(h:lineG f l=some a):a.text.size≤l.length:=by
 unfold lineG at h;split at h
 ·cases h
 ·unfold actR at h;split at h
  ·rename_i n p t _ _ q3;injection h with h;subst h;show t.length≤_;unfold Zps at q3;split at q3
   ·have b:=Zpm _ _ q3;refine Zg b ?_;cases hx:((spl 32 l).drop 1)[1]? with
    |none=>rw[List.getD_eq_getElem?_getD,hx];exact Zf _
    |some x =>
     rw[List.getD_eq_getElem?_getD,hx];exact Zs5 32 l x (List.mem_of_mem_drop (List.mem_of_getElem? hx))
   ·injection q3 with q3;subst q3;exact Zf _
  ·cases h
theorem Ze8(w:World)(n:Nat):Below w.heap.size w (w.drewN n):=⟨rfl,rfl,rfl,Za _,fun _ _=>rfl⟩
def strLen:Value→Nat
 |.string s=>s.size
 |_=>0
theorem Zus{g:List UInt8→Option Ac}{n:Nat}{l:List UInt8}{out:List Ac}(b:l≠[]):readG g (n+1) i l out=if i=3000 then([],i,1)else if ¬fst1 10 l<l.length then([],i,4)else match g (l.take (fst1 10 l))with
 |none=>([],i,4)
 |some a=>if actE a=0 then readG g n (i+1) (l.drop (fst1 10 l+1)) (out++[a])else([],i,actE a):=by
 conv=>lhs;unfold readG
 rw[if_neg b];rfl
theorem Zwy{g:List UInt8→Option Ac}{n:Nat}{out:List Ac}:readG g n i [] out=(out,0,0):=by
 cases n with
 |zero=>rfl
 |succ n=>unfold readG;rw[if_pos rfl]
theorem Zg2(h:View):RActs h (.slice none 0 0) []:=⟨none,0,rfl,Za _,Zf _,by simp,fun _=>rfl,fun h=>by simp at h⟩
theorem elemAct:Elem prog 24 48 4 40:=by
 obtain⟨i,hi,b,c,a⟩:=info_parts (show(prog.info? 48).map (fun i=>(i.zero,i.size,i.bytes))=some (some (.agg #[.int .i64 0,.int .i64 0,.int .i64 0,.string ByteArray.empty]),4,40) by kernel_rfl);exact⟨underlying24,by decide,i,_,hi,b,c,a,rfl⟩
theorem read_any(s:ByteArray)(hs:s.size≤33554432)(w:World)(hE:Env w):Calls prog 7 #[.string s] w (RdOut (readG (lineG numP) s.size 0 s.data.toList []) w):=by
 have he:s.data.toList.length=s.size:=Array.length_toList;obtain⟨R,hR⟩:∃R,Hid (readG (lineG numP) s.size 0 s.data.toList []=R):=⟨_,rfl⟩;rw[hR.out];go_enter func7,ntmps7;go_wp2
 go_loopw [0,5,6] (fun sv v iv wr=>∃(S:ByteArray) (i n:Nat) (xs:List Ac),sv=.string S∧iv=.int .i64 i∧S.size≤n∧n≤33554432∧i≤3000∧xs.length≤i∧OwnSl 4 RAct 48 wr w.heap.size v xs∧Hid (R=readG (lineG numP) n i S.data.toList xs)∧Below w.heap.size w wr) (fun sv _ _ _=>strLen sv)
 case atStart=>exact⟨s,0,s.size,[],rfl,rfl,Za _,hs,by decide,Za _,OwnSl.nil _ _ _ _ _,hR.out.symm,Zm _ _⟩
 case round =>
  obtain⟨S,i,n,xs,rfl,rfl,hb,hn,hi,ha,Y,X,f⟩:=hrel;have l:S.data.toList.length=S.size:=Array.length_toList
  by_cases hz:S.size=0
  ·have C:S.data.toList=[]:=List.eq_nil_of_length_eq_zero (by rw[l];exact hz);have c:R=(xs,0,0):=by rw[X.out,C,Zwy]
   have h0:S.toList=[]:=by rw[ByteArray.toList_eq];exact C
   clear X;go_wp2;go_ret3;exact⟨⟨_,by rw[c];rfl,by rw[c];exact Y.reads RAct.mono (by show xs.length*40≤_;omega)⟩,f⟩
  ·have N:S.data.toList≠[]:=fun e=>hz (by rw[←l,e];rfl)
   have h0:(S.toList==[])=false:=by rw[ByteArray.toList_eq,beq_eq_false_iff_ne];exact N
   obtain⟨n',rfl⟩:∃n',n=n'+1:=⟨n-1,by omega⟩;have m:=X.out;rw[Zus N]at m;have hcut:=cut_one 10 S.data.toList;rw[l]at hcut m;obtain⟨q,hq⟩:∃q,Hid (fst1 10 S.data.toList=q):=⟨_,rfl⟩;rw[hq.out]at hcut m;obtain⟨LL,I⟩:∃LL,Hid (mkS (S.data.toList.take q)=LL):=⟨_,rfl⟩;obtain⟨RR,u⟩:∃RR,Hid (mkS (S.data.toList.drop (q+1))=RR):=⟨_,rfl⟩;have o:=Zb m;clear m X;have L:=hE.kept f
   by_cases D:q<S.size
   ·rw[if_pos D]at hcut;have g:=Zyd S (by omega) wr L;rw[hcut]at g;simp only at g;rw[I.out,u.out]at g;have p:=Zb g;clear hcut g;have h4:LL.size≤33554432:=by rw[←I.out,Zcn,List.length_take,l];omega
    have h2:RR.size≤n':=by rw[←u.out,Zcn,List.length_drop,l];omega
    have h6:RR.size<S.size:=by rw[←u.out,Zcn,List.length_drop,l];omega
    by_cases d:i=3000
    ·have c:Hid (R=([],3000,1)):=by show _=_;rw[o.out,if_pos d,d]
     subst d;go_wp2_with fail;refine p.out.mono ?_;rintro e w1 ⟨rfl,dn,rfl⟩;go_wp2;go_ret3;exact⟨⟨_,by rw[c.out];rfl,by rw[c.out];exact Zg2 _⟩,f.trans ((Ze8 _ _).mono f.size)⟩
    ·have j:Hid (R=match lineG numP LL.data.toList with
      |none=>([],i,4)
      |some a=>if actE a=0 then readG (lineG numP) n' (i+1) RR.data.toList (xs++[a])else([],i,actE a)):=by
      show _=_;rw[o.out,if_neg d,if_neg (by omega),←I.out,←u.out];rfl
     have h3:((i:Int)==3000)=false:=by rw[beq_eq_false_iff_ne];omega
     clear o;go_wp2_with fail;refine p.out.mono ?_;rintro e w1 ⟨rfl,dn,rfl⟩;have H:=f.trans ((Ze8 wr dn).mono f.size);have M:=Y.kept RAct.mono (Ze8 wr dn);go_wp2_with fail;refine(one_any LL h4 _ (hE.kept H)).mono ?_;rintro e w2 ⟨⟨ak,an,ap,atx,b,rfl,B⟩,T⟩;have y:=H.trans (T.mono H.size);have U:=M.kept RAct.mono T;clear Y M;cases b
     ·have O:lineG numP LL.data.toList=none:=by
       cases hx:lineG numP LL.data.toList with
       |none=>rfl
       |some x=>rw[hx]at B;cases B.2
      have c:Hid (R=([],i,4)):=by show _=_;rw[j.out,O]
      clear j B O;go_wp2;go_ret3;exact⟨⟨_,by rw[c.out];rfl,by rw[c.out];exact Zg2 _⟩,y.alloc y.size _⟩
     ·have t:lineG numP LL.data.toList=some ⟨ak,an,ap,atx⟩:=by
       cases hx:lineG numP LL.data.toList with
       |none=>rw[hx]at B;cases B
       |some x=>rw[hx]at B;rw[B.1]
      have P:=Zr5 t
      have W:atx.size≤140737488355328:=by
       have:LL.data.toList.length=LL.size:=Array.length_toList;simp only at P;omega
      have A:Hid (R=if actE ⟨ak,an,ap,atx⟩=0 then readG (lineG numP) n' (i+1) RR.data.toList (xs++[⟨ak,an,ap,atx⟩])else([],i,actE ⟨ak,an,ap,atx⟩)):=by
       show _=_;rw[j.out,t]
      clear j B t P;have V:=Blk.new w2 48 #[.int .i64 ak,.int .i64 an,.int .i64 ap,.string atx];have G:=Zac w2 (.cells #[.int .i64 ak,.int .i64 an,.int .i64 ap,.string atx] 48);go_wp2_with fail;refine(Zfq ak an ap atx _ W).mono ?_;rintro e w4 ⟨rfl,E⟩;have r:Below w2.heap.size w2 w4:=G.trans (E.mono G.size);have K:=y.trans (r.mono y.size);have z:=V.kept E;have h1:=U.kept RAct.mono r;obtain⟨F,hF⟩:∃F,Hid (actF ak an ap atx=F):=⟨_,rfl⟩;rw[hF.out]
      have k:Hid (R=if F=0 then readG (lineG numP) n' (i+1) RR.data.toList (xs++[⟨ak,an,ap,atx⟩])else([],i,F)):=by
       show _=_;rw[A.out];show(if actF ak an ap atx=0 then _ else([],i,actF ak an ap atx))=_;rw[hF.out]
      clear A hF V G E r U
      by_cases J:F=0
      ·subst J;have c:Hid (R=readG (lineG numP) n' (i+1) RR.data.toList (xs++[⟨ak,an,ap,atx⟩])):=by show _=_;rw[k.out,if_pos rfl]
       have c0:=z.cell 0;have c1:=z.cell 1;have c2:=z.cell 2;have c3:=z.cell 3;simp at c0 c1 c2 c3;have Q:=K.size;clear k;go_wp2_with (at_builtin;refine Zaz (n:=140737488355328) RAct.mono (⟨ak,an,ap,atx⟩:Ac) [.int .i64 ak,.int .i64 an,.int .i64 ap,.string atx] elemAct _ _ rfl rfl rfl h1 K Q rfl rfl rfl rfl rfl (Za _) (by omega) (by omega) ?_);intro v6 w6 Z h5 _;clear c0 c1 c2 c3;go_wp2;go_roundw
       case rel=>exact⟨RR,i+1,n',_,rfl,by go_num,h2,by omega,by omega,by simp;omega,Z,c,h5⟩
       case measure=>simp[strLen];omega
      ·have c:Hid (R=([],i,F)):=by show _=_;rw[k.out,if_neg J]
       have hf:(F != 0)=true:=by simpa using J
       clear k;go_wp2;go_ret3;exact⟨⟨_,by rw[c.out];rfl,by rw[c.out];exact Zg2 _⟩,K⟩
   ·rw[if_neg D]at hcut
    have c:Hid (R=([],i,if i=3000 then 1 else 4)):=by
     show _=_;rw[o.out]
     by_cases h:i=3000
     ·rw[if_pos h,if_pos h]
     ·rw[if_neg h,if_neg h,if_pos D]
    have g:=Zyd S (by omega) wr L;rw[hcut]at g;simp only at g;have p:=Zb g;clear hcut g o
    by_cases d:i=3000
    ·subst d;go_wp2_with fail;refine p.out.mono ?_;rintro e w1 ⟨rfl,dn,rfl⟩;go_wp2;go_ret3;exact⟨⟨_,by rw[c.out];rfl,by rw[c.out];exact Zg2 _⟩,f.trans ((Ze8 _ _).mono f.size)⟩
    ·have h3:((i:Int)==3000)=false:=by rw[beq_eq_false_iff_ne];omega
     rw[if_neg d]at c;go_wp2_with fail;refine p.out.mono ?_;rintro e w1 ⟨rfl,dn,rfl⟩;go_wp2;go_ret3;exact⟨⟨_,by rw[c.out];rfl,by rw[c.out];exact Zg2 _⟩,f.trans ((Ze8 _ _).mono f.size)⟩
end Ln
end Go.Proofs.YtbcpbnfojfiekaaGreatDoor
