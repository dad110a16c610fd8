/- A part of what the last text stands on. -/
import Derived.Shelf.Abstract
import Derived.Deep.MidRow
import Derived.Test.YtbcpbnfojfiekaaGreatDoorK05
import Derived.Test.YtbcpbnfojfiekaaGreatDoorK07
import Derived.Test.YtbcpbnfojfiekaaGreatDoorK08
namespace Go.Proofs.YtbcpbnfojfiekaaGreatDoor
open Go.ChangeShapes Go.WideShapes Go.ChangeAt Go.RowKit Go.Proofs.Tryz Qa Qb Qc
set_option linter.all false
set_option maxHeartbeats 20000000
set_option maxRecDepth 100000
variable{P:Program}{w w' W wr:World}{a:Act}{o:Oper}{Q:Exit→Act→World→Prop}{K:Act→World→Prop}{v:Value}{cur:Array Value}{A:Option Addr}{h:View}{e t te:TypeId}{k g sz bs b c:Nat}{α:Type}{xs:List α}{enc:α→Value}{R:View→List Value→α→Prop}
def Zj9(p:Nat→Int)(n:Nat):Int:=match (List.range n).find? (fun i=>p i != 0)with|some i=>p i|none=>0
theorem Zj8{p:Nat→Int}{n:Nat}{f:Int}(c:k<n)(h:∀j,j<k→p j=0)(a:p k=f)(b:f≠0):Zj9 p n=f:=by
 have:(List.range n).find? (fun i=>p i != 0)=some k:=by
  rw[List.find?_range_eq_some];exact⟨by simp[a,b],List.mem_range.2 c,fun j d=>by simp[h j d]⟩
 unfold Zj9;simp only[this,a]
theorem Zsn{p:Nat→Int}{n:Nat}(h:∀j,j<n→p j=0):Zj9 p n=0:=by
 have:(List.range n).find? (fun i=>p i != 0)=none:=by
  rw[List.find?_eq_none];intro x a;simp[h x (List.mem_range.1 a)]
 unfold Zj9;simp only[this]
def encI(n:Int):Value:=.int .i64 n
theorem Zis(n:Int):(encI n).oneCell'=true:=rfl
abbrev RIs:=RVec encI 8
abbrev OwnI:=OwnVec encI 3
theorem Zx5:Zkm prog 77 3 8:=elem1 (z:=.int .i64 0) underlying77 (by kernel_rfl) rfl
theorem RIs.at{n:Nat}{xs:List Int}(j:RIs h (.slice A n c) xs):n=xs.length∧n≤c∧n*8≤140737488355328∧∀k (a:k<xs.length),∃b o,A=some ⟨b,o,none⟩∧h ⟨b,o+k,none⟩=some (.int .i64 xs[k]):=by
 obtain⟨A',c',e,d,m,g,l,f⟩:=j;injection e with e1 e2 e3;subst e1 e2 e3;refine⟨rfl,d,g,fun k a=>?_⟩;obtain⟨b,o,ea,i⟩:=f (by omega);exact⟨b,o,ea,i k a⟩
structure Hdr where
 author:Int
 round:Int
 batches:List (List UInt8)
 parents:List (List UInt8)
structure Crt where
 hdr:Hdr
 voters:List Int
def RCrt(h:View)(cs:List Value)(x:Crt):Prop:=∃vb vp vv,cs=[.int .i64 x.hdr.author,.int .i64 x.hdr.round,vb,vp,vv]∧RDigs h vb x.hdr.batches∧RDigs h vp x.hdr.parents∧RIs h vv x.voters
theorem RCrt.mono:Mono RCrt:=fun h f cs x ⟨vb,vp,vv,e,b,d,c⟩ a=>⟨vb,vp,vv,e,b.mono Ze a,d.mono Ze a,c.mono a⟩
abbrev RCrts:=RSl 5 RCrt 88
theorem Zl1:Elem prog 39 79 5 88:=Zo4 (z:=.agg #[.int .i64 0,.int .i64 0,.slice none 0 0,.slice none 0 0,.slice none 0 0]) underlying39 (by kernel_rfl) rfl (by decide)
theorem RCrts.at{n:Nat}{xs:List Crt}(l:RCrts h (.slice A n c) xs):n=xs.length∧n≤c∧n*88≤140737488355328∧∀k (d:k<xs.length),∃b o vb vp vv,A=some ⟨b,o,none⟩∧h ⟨b,o+k*5,none⟩=some (.int .i64 xs[k].hdr.author)∧h ⟨b,o+k*5+1,none⟩=some (.int .i64 xs[k].hdr.round)∧h ⟨b,o+k*5+2,none⟩=some vb∧h ⟨b,o+k*5+3,none⟩=some vp∧h ⟨b,o+k*5+4,none⟩=some vv∧RDigs h vb xs[k].hdr.batches∧RDigs h vp xs[k].hdr.parents∧RIs h vv xs[k].voters:=by
 obtain⟨A',c',e,f,_,j,_,g⟩:=l;injection e with e1 e2 e3;subst e1 e2 e3;refine⟨rfl,f,j,fun k d=>?_⟩;obtain⟨b,o,ea,i⟩:=g (by omega);obtain⟨cs,m,a,vb,vp,vv,rfl,q1,q2,q3⟩:=i k d;exact⟨b,o,vb,vp,vv,ea,a 0 (by omega),a 1 (by omega),a 2 (by omega),a 3 (by omega),a 4 (by omega),q1,q2,q3⟩
def Zib(vs:List Int)(i:Nat):Int:=match vs[i]? with
 |some v=>if inB v 0 3 then(match i with|0=>0|j+1=>match vs[j]? with|some u=>if v≤u then 9 else 0|none=>0)else 2
 |none=>0
def Zhk(a r:Int)(b p:List (List UInt8))(vs:List Int):Int :=
 if Zb5 a r b p≠0 then Zb5 a r b p else if 4<vs.length then 1 else if Zj9 (Zib vs) vs.length≠0 then Zj9 (Zib vs) vs.length else if vs.length<3 then 10 else 0
theorem Zra{vs:List Int}(a:k<vs.length)(h:inB vs[k] 0 3=false):Zib vs k=2:=by unfold Zib;simp[a,h]
theorem Zrb{vs:List Int}(a:0<vs.length)(h:inB vs[0] 0 3=true):Zib vs 0=0:=by unfold Zib;simp[a,h]
theorem Zuc{vs:List Int}(a:k+1<vs.length)(h:inB vs[k+1] 0 3=true):Zib vs (k+1)=if vs[k+1]≤vs[k]then 9 else 0:=by
 unfold Zib;have:k<vs.length:=by omega
 simp[a,h,this]
theorem Zen(a r:Int)(vb vp vv:Value)(b p:List (List UInt8))(vs:List Int)(w:World)(S:RDigs w.cell? vb b)(hp:RDigs w.cell? vp p)(D:RIs w.cell? vv vs) :
 Calls prog 74 #[.agg #[.int .i64 a,.int .i64 r,vb,vp,vv]] w fun e w'=>e=.returned (.int .i64 (Zhk a r b p vs))∧Below w.heap.size w w':=by
 obtain⟨vA,vc,rfl,_⟩:=id D;obtain⟨_,F,H,u⟩:=D.at;have t:=Zb u;clear u D;obtain⟨E,K⟩:∃E,Hid (Zb5 a r b p=E):=⟨_,rfl⟩;obtain⟨Q,N⟩:∃Q,Hid (Zhk a r b p vs=Q):=⟨_,rfl⟩;obtain⟨V,C⟩:∃V,Hid (Zj9 (Zib vs) vs.length=V):=⟨_,rfl⟩;have z:Hid (Q=if E≠0 then E else if 4<vs.length then 1 else if V≠0 then V else if vs.length<3 then 10 else 0):=by show _=_;rw[←N.out,←K.out,←C.out];rfl
 rw[N.out];go_enter func74,ntmps74;go_wp2_with fail;refine Za9 _ _ _ (fun W=>Calls prog _ _ W _) (fun W g O d=>?_);refine(Zdr a r vb vp b p _ (S.mono Ze (Zaa d)) (hp.mono Ze (Zaa d))).mono ?_;rintro e w1 ⟨rfl,v⟩;rw[K.out];have c:=d.trans (v.mono d.size);have G:=g.kept v;clear d v g;have c4:=G.cell 4;simp at c4
 by_cases A:E=0
 ·subst A
  by_cases L:4<vs.length
  ·have o:Hid (Q=1):=by show _=_;rw[z.out,if_neg (by omega),if_pos L]
   clear z;go_wp2;go_ret;exact⟨Zak o.out.symm,c⟩
  ·have o:Hid (Q=if V≠0 then V else if vs.length<3 then 10 else 0):=by show _=_;rw[z.out,if_neg (by omega),if_neg L]
   clear z;go_wp2
   go_loopw [19] (fun i wr=>∃k:Nat,k≤vs.length∧i=.int .i64 k∧Hid (∀j,j<k→Zib vs j=0)∧Below w1.heap.size w1 wr) (fun i _=>vs.length-(intOf i).toNat)
   case atStart=>exact⟨0,Zf _,rfl,fun j P=>by omega,Zm _ _⟩
   case round =>
    obtain⟨k,R,rfl,q,d⟩:=hrel;have c4:=Zaa d _ _ c4
    by_cases n:k<vs.length
    ·obtain⟨b0,o0,rfl,f⟩:=t.out k n;have s:=Zaa d _ _ (Zaa c _ _ f);clear f;cases hin:inB vs[k] 0 3
     ·have m:Hid (Q=2):=by
       show _=_;have:=C.out.symm.trans (Zj8 n q.out (Zra n hin) (by decide));rw[o.out,this];rfl
      clear o;go_wp2_with (first|(go_at_call 70;refine(Za5 _ _).mono ?_;rintro e w' ⟨rfl,rfl⟩)|fail);go_ret;exact⟨Zak m.out.symm,c.trans (d.mono c.size)⟩
     ·cases k with
      |zero =>
       have l:=Zb (Zrb n hin);rw[Nat.add_zero]at s;generalize vs[0]=x at s hin;go_wp2_with (first|(go_at_call 70;refine(Za5 _ _).mono ?_;rintro e w' ⟨rfl,rfl⟩)|fail);go_roundw
       case rel=>exact⟨1,by omega,rfl,Zkv q.out l.out,d⟩
       case measure=>simp[intOf];omega
      |succ k =>
       have l:=Zb (Zuc n hin);obtain⟨b1,o1,e1,f⟩:=t.out k (by omega);injection e1 with e1;injection e1 with e1 e2 e3;subst e1 e2;have I:=Zaa d _ _ (Zaa c _ _ f);clear f;generalize vs[k+1]=x at s hin l;generalize vs[k]=y at I l;have q1:IntKind.i64.wrap (((k+1:Nat):Int)-1)=(k:Nat):=by rw[IntKind.wrap_i64];omega
       have q2:(0:Int)<((k+1:Nat):Int):=by omega
       obtain⟨k1,g⟩:∃k1,Hid (k+1=k1):=⟨_,rfl⟩;have J:=g.out;rw[g.out]at s n R q1 q2⊢;have q3:0<k1:=by omega
       have q4:k<vs.length:=by omega
       have q5:(k:Int)<vs.length:=by omega
       by_cases h:x≤y
       ·have m:Hid (Q=9):=by
         show _=_;have:=C.out.symm.trans (Zj8 n (g.out▸q.out) (g.out▸l.out.trans (if_pos h)) (by decide));rw[o.out,this];rfl
        clear o l;go_wp2_with (first|(go_at_call 70;refine(Za5 _ _).mono ?_;rintro e w' ⟨rfl,rfl⟩)|fail);go_ret;exact⟨Zak m.out.symm,c.trans (d.mono c.size)⟩
       ·have B:Hid (Zib vs (k+1)=0):=l.out.trans (if_neg h);clear l;go_wp2_with (first|(go_at_call 70;refine(Za5 _ _).mono ?_;rintro e w' ⟨rfl,rfl⟩)|fail);go_roundw
        case rel=>exact⟨k1+1,by omega,by go_num,g.out▸Zkv (g.out▸q.out) B.out,d⟩
        case measure=>simp[intOf];omega
    ·have m:Hid (Q=if vs.length<3 then 10 else 0):=by
      show _=_;rw[o.out,if_neg (by rw[←C.out,Zsn fun j P=>q.out j (by omega)];decide)]
     clear o
     by_cases M:vs.length<3
     ·have o:Hid (Q=10):=m.out.trans (if_pos M);clear m;go_wp2;go_ret;exact⟨Zak o.out.symm,c.trans (d.mono c.size)⟩
     ·have o:Hid (Q=0):=m.out.trans (if_neg M);clear m;go_wp2;go_ret;exact⟨Zak o.out.symm,c.trans (d.mono c.size)⟩
 ·have o:Hid (Q=E):=by show _=_;rw[z.out,if_pos A]
  clear z;go_wp2;go_ret;exact⟨Zak o.out.symm,c⟩
def zeroC:Crt:=⟨⟨0,0,[],[]⟩,[]⟩
abbrev Slt:=Slot
structure Msg where
 src:Int
 dst:Int
 kind:Int
 bat:Bat
 hdr:Hdr
 slt:Slt
 crt:Crt
 round:Int
def msgC(m:Msg)(vt vb vp vd cb cp cv:Value):Array Value:=#[.int .i64 m.src,.int .i64 m.dst,.int .i64 m.kind,.int .i64 m.bat.author,.int .i64 m.bat.number,vt,.int .i64 m.hdr.author,.int .i64 m.hdr.round,vb,vp,.int .i64 m.slt.author,.int .i64 m.slt.round,vd,.int .i64 m.crt.hdr.author,.int .i64 m.crt.hdr.round,cb,cp,cv,.int .i64 m.round]
structure RMsg (h:View) (m:Msg) (vt vb vp vd cb cp cv:Value):Prop where
 txs:RTexts h vt m.bat.txs
 bats:RDigs h vb m.hdr.batches
 pars:RDigs h vp m.hdr.parents
 dig:Zan h vd m.slt.digest
 cbats:RDigs h cb m.crt.hdr.batches
 cpars:RDigs h cp m.crt.hdr.parents
 vots:RIs h cv m.crt.voters
theorem RMsg.mono{b:View}{m:Msg}{vt vb vp vd cb cp cv:Value}(r:RMsg h m vt vb vp vd cb cp cv)(a:VLe h b):RMsg b m vt vb vp vd cb cp cv :=
 ⟨r.txs.mono a,r.bats.mono Ze a,r.pars.mono Ze a,r.dig.mono a,r.cbats.mono Ze a,r.cpars.mono Ze a,r.vots.mono a⟩
def Zef(a r:Int)(b p:List (List UInt8)):Bool:=decide (a=0∧r=0∧b.length=0∧p.length=0)
def Zml(x:Bat):Bool:=decide (x.author≠0∨x.number≠0∨0<x.txs.length)
def Zla(x:Slt):Bool:=decide (x.author≠0∨x.round≠0∨0<x.digest.length)
def Zl6(x:Crt):Bool:= !Zef x.hdr.author x.hdr.round x.hdr.batches x.hdr.parents||decide (0<x.voters.length)
def Zea(m:Msg):Int :=
 if m.kind=1 then Zcs m.bat.author m.bat.number m.bat.txs else if m.kind=2 then Zb5 m.hdr.author m.hdr.round m.hdr.batches m.hdr.parents else if m.kind=3 then Zgm m.slt.author m.slt.round m.slt.digest.length
 else if m.kind=4 then Zhk m.crt.hdr.author m.crt.hdr.round m.crt.hdr.batches m.crt.hdr.parents m.crt.voters else if inB m.round 1 1048576 then 0 else 2
def Zlz(m:Msg):Bool :=
 Zml m.bat&&decide (m.kind≠1)|| !Zef m.hdr.author m.hdr.round m.hdr.batches m.hdr.parents&&decide (m.kind≠2)||Zla m.slt&&decide (m.kind≠3)||Zl6 m.crt&&decide (m.kind≠4)||decide (m.round≠0)&&decide (m.kind≠5)
def msgF(m:Msg):Int :=
 if inB m.src 0 3&&inB m.dst 0 3 then(if inB m.kind 1 5 then(if Zea m≠0 then Zea m else if Zlz m then 4 else 0)else 3)else 2
theorem RMsg.forms{m:Msg}{vt vb vp vd cb cp cv:Value}(r:RMsg h m vt vb vp vd cb cp cv):(∃A c,vt=.slice A m.bat.txs.length c)∧(∃A c,vb=.slice A m.hdr.batches.length c)∧(∃A c,vp=.slice A m.hdr.parents.length c)∧(∃A c,vd=.slice A m.slt.digest.length c) ∧
 (∃A c,cb=.slice A m.crt.hdr.batches.length c)∧(∃A c,cp=.slice A m.crt.hdr.parents.length c)∧(∃A c,cv=.slice A m.crt.voters.length c):=by
 obtain⟨a1,a2,e1,_⟩:=r.txs;obtain⟨b1,b2,e2,_⟩:=r.bats;obtain⟨c1,c2,e3,_⟩:=r.pars;obtain⟨d1,d2,e4,_⟩:=r.dig;obtain⟨f1,f2,e5,_⟩:=r.cbats;obtain⟨g1,g2,e6,_⟩:=r.cpars;obtain⟨a,b,e7,_⟩:=r.vots;exact⟨⟨_,_,e1⟩,⟨_,_,e2⟩,⟨_,_,e3⟩,⟨_,_,e4⟩,⟨_,_,e5⟩,⟨_,_,e6⟩,⟨_,_,e7⟩⟩
abbrev RS:=List UInt8×Bool
def tkB(n:Nat)(s:RS):List UInt8:=if s.2||decide (s.1.length<n)then []else s.1.take n
def tkS(n:Nat)(s:RS):RS:=if s.2||decide (s.1.length<n)then(s.1,true)else(s.1.drop n,false)
def beN(b:List UInt8):Nat:=b.foldl (fun a x=>a*256+x.toNat) 0
def nmV(n:Nat)(s:RS):Nat:=beN (tkB n s)
def it{α:Type}(f:α→α):Nat→α→α
 |0,a=>a
 |n+1,a=>f (it f n a)
def Zhj(p:List ByteArray×RS):List ByteArray×RS:=if p.2.2 then p else(p.1++[bstr (tkB (nmV 1 p.2) (tkS 1 p.2))],tkS (nmV 1 p.2) (tkS 1 p.2))
def Zk8(p:List (List UInt8)×RS):List (List UInt8)×RS:=if p.2.2 then p else(p.1++[tkB 32 p.2],tkS 32 p.2)
def Zk7(p:List Int×RS):List Int×RS:=if p.2.2 then p else(p.1++[(nmV 1 p.2:Int)],tkS 1 p.2)
def txsR(s:RS):List ByteArray×RS:=it Zhj (nmV 1 s) ([],tkS 1 s)
def Zkh(s:RS):List (List UInt8)×RS:=it Zk8 (nmV 1 s) ([],tkS 1 s)
def Zv4(s:RS):List Int×RS:=it Zk7 (nmV 1 s) ([],tkS 1 s)
def batR(s:RS):Bat×RS:=(⟨nmV 1 s,nmV 3 (tkS 1 s),(txsR (tkS 3 (tkS 1 s))).1⟩,(txsR (tkS 3 (tkS 1 s))).2)
def hdrR(s:RS):Hdr×RS:=(⟨nmV 1 s,nmV 3 (tkS 1 s),(Zkh (tkS 3 (tkS 1 s))).1,(Zkh (Zkh (tkS 3 (tkS 1 s))).2).1⟩,(Zkh (Zkh (tkS 3 (tkS 1 s))).2).2)
def sltR(s:RS):Slot×RS:=(⟨nmV 1 s,nmV 3 (tkS 1 s),tkB 32 (tkS 3 (tkS 1 s))⟩,tkS 32 (tkS 3 (tkS 1 s)))
def crtR(s:RS):Crt×RS:=(⟨(hdrR s).1,(Zv4 (hdrR s).2).1⟩,(Zv4 (hdrR s).2).2)
def bat0:Bat:=⟨0,0,[]⟩
def hdr0:Hdr:=⟨0,0,[],[]⟩
def slt0:Slot:=⟨0,0,[]⟩
def crt0:Crt:=⟨hdr0,[]⟩
def msg0:Msg:=⟨0,0,0,bat0,hdr0,slt0,crt0,0⟩
def bodR(src dst kind:Int)(s:RS):Msg×RS :=
 if kind=1 then(⟨src,dst,kind,(batR s).1,hdr0,slt0,crt0,0⟩,(batR s).2)
 else if kind=2 then(⟨src,dst,kind,bat0,(hdrR s).1,slt0,crt0,0⟩,(hdrR s).2)
 else if kind=3 then(⟨src,dst,kind,bat0,hdr0,(sltR s).1,crt0,0⟩,(sltR s).2)
 else if kind=4 then(⟨src,dst,kind,bat0,hdr0,slt0,(crtR s).1,0⟩,(crtR s).2)
 else if kind=5 then(⟨src,dst,kind,bat0,hdr0,slt0,crt0,nmV 3 s⟩,tkS 3 s)
 else(⟨src,dst,kind,bat0,hdr0,slt0,crt0,0⟩,s)
def msgR(b:List UInt8):Msg×RS:=bodR (nmV 1 (tkS 1 (b,false))) (nmV 1 (tkS 1 (tkS 1 (b,false)))) (nmV 1 (b,false)) (tkS 1 (tkS 1 (tkS 1 (b,false))))
def decE(b:List UInt8):Int :=
 if 4000<b.length then 1 else if b.length=0 then 5 else if nmV 1 (b,false)<1∨5<nmV 1 (b,false)then 3
 else if (msgR b).2.2 then 5 else if 0<(msgR b).2.1.length then 4 else msgF (msgR b).1
def decM(b:List UInt8):Msg:=if decE b=0 then(msgR b).1 else msg0
theorem Zoy{α:Type}{f:α→α}{a:α}:∀{k n:Nat},k≤n→f (it f k a)=it f k a→it f n a=it f k a
 |k,0,h,_=>by rw[Nat.le_zero.1 h]
 |k,n+1,h,b=>by
  by_cases e:k=n+1
  ·rw[e]
  ·show f (it f n a)=_
   rw[Zoy (show k≤n by omega) b,b]
theorem beN_snoc(b:List UInt8)(x:UInt8):beN (b++[x])=beN b*256+x.toNat:=by unfold beN;rw[List.foldl_append];rfl
theorem beN_from(b:List UInt8):∀a:Nat,b.foldl (fun a x=>a*256+x.toNat) a<(a+1)*256^b.length:=by
 induction b with
 |nil=>intro a;simp
 |cons x b ih =>
  intro a;have c:=ih (a*256+x.toNat);have d:=x.toNat_lt;rw[List.foldl_cons,Zu,Nat.pow_succ];refine Nat.lt_of_lt_of_le c ?_;rw[Nat.mul_comm (256^b.length) 256,←Nat.mul_assoc];exact Nat.mul_le_mul_right _ (by omega)
theorem beN_lt(b:List UInt8):beN b<256^b.length:=by
 have:=beN_from b 0;simpa[beN]using this
theorem Zoc(n:Nat)(s:RS):(tkB n s).length≤n:=by
 unfold tkB;split
 ·exact Zf _
 ·simp;omega
theorem Zqd(n:Nat)(s:RS):nmV n s<256^n:=by
 have a:=beN_lt (tkB n s);have b:256^(tkB n s).length≤256^n:=Nat.pow_le_pow_right (by decide) (Zoc n s);unfold nmV;omega
theorem Zh9{bytes base n:Nat}{vy:Value}{ys:List α}(F:Zkm P t e bytes)(E:∀x:α,(enc x).oneCell'=true)(s y:Operand)(j:o.op=.call {callee:=.builtin .append,args:=#[s,y],argTypes:=#[t,t] })(I:a.eval s=v)(d:OwnVec enc e wr base v xs)(l:Below base W wr)(b:base≤wr.heap.size)(D:a.eval y=vy)(B:RVec enc bytes wr.cell? vy ys)(C:n≤140737488355328)(hn:(xs.length+ys.length)*bytes≤n)(w:xs.length+ys.length≤n)(h:∀v' w',OwnVec enc e w' base v' (xs++ys)→Below base W w'→K (a.put o.dst v') w'):o.wp P a wr K Q:=by
 obtain⟨ht,i,z,hi,p,k,q,m⟩:=F;obtain⟨A,c,rfl,_⟩:=id B;obtain⟨_,_,_,H,G,f⟩:=B.src;refine Zf1 s y t j base e i z 1 bytes ht hi p k q m (by decide) v xs.length _ I d.own A ys.length c (ys.map enc) D H G f (fun u hu=>by obtain⟨x,_,rfl⟩:=List.mem_map.1 hu;exact E x) (Zbw (Zg w C)) (Zg hn C) b (fun v' w' j r=>h v' w' ⟨?_⟩ (l.grown r b (fun g r=>(d.own.lt g r).1)));simpa using j
def addF(next:Int)(l:List ByteArray)(s:ByteArray):Int:=if Zdt next l≠0 then Zdt next l else if txOk s then(if Zcy l s then 7 else if 40≤l.length then 6 else 0)else 1
theorem Zuu(next:Int)(v:Value)(l:List ByteArray)(s:ByteArray)(w:World)(N:RTexts w.cell? v l)(hs:∀s∈l,s.size≤140737488355328)(T:s.size≤140737488355328)(V:Zdt next l=0)(Q:txOk s=true)(R:Zcy l s=false)(h7:l.length<40) :
 Calls prog 92 #[.agg #[.int .i64 next,v],.string s] w fun e w'=>∃d,e=.returned (.tuple #[.agg #[.int .i64 next,d],.int .i64 0])∧Below w.heap.size w w'∧OwnS w' w.heap.size d (l++[s]):=by
 obtain⟨A,c,rfl,Z,Y⟩:=N.form;clear Y;go_enter func92,ntmps92;go_wp2_with fail;refine Za8 _ _ _ _ _ (fun W=>Calls _ _ _ W _) (fun W z F h5 m=>?_);refine(Zga next _ l _ (N.mono (Zaa m)) hs).mono ?_;rintro e w1 ⟨rfl,y⟩;rw[V];replace z:=z.kept y;replace F:=F.kept y;replace m:=m.trans (y.mono (by omega));have H:=N.below_but m (Nat.le_succ _);have h2:=y.size;have g0:=z.cell 0;have g1:=z.cell 1;simp at g0 g1;have O:=Zb (N.mono (Zaa m));clear y;go_wp2_with fail;refine(tx_any s _ T).mono ?_;rintro e w' ⟨rfl,rfl⟩;rw[Q];go_wp2_with fail;refine(Zeh _ l s _ O.out).mono ?_;rintro e w' ⟨rfl,rfl⟩;rw[R];go_wp2
 refine Zmp (fun w'=>w1.grownBy w' (some (w.heap.size+1))∧∃cs,Blk w' (w.heap.size+1) 105 cs∧cs.size=2) (.alt [(0,true),(1,true),(2,true),(3,true),(5,true)] 4 6 (.done [(6,false),(7,false),(8,true),(9,false),(10,true)]) (.done [(4,false),(7,false),(8,true),(9,false),(10,true)])) (by kernel_rfl) (by kernel_rfl) (fun _ _ d _ _ h=>by cases d<;>exact h) rfl (by kernel_rfl) ?_ ?_
 ·exact⟨Zbf _ _,_,F,rfl⟩
 intro W1 L;simp only[PT.wp]
 repeat((first|refine Zdi rfl rfl ⟨_,fun w' g=>by(have hq:=z.grown g.1 (by simp);have h0:=hq.cell 0;have h1:=hq.cell 1;simp at h0 h1;go_simp;exact rfl),?_⟩|refine wpPlanK_skip (by assumption) rfl rfl ?_);simp only[sx])
 refine Zhw ⟨?_,?_⟩
 ·first
   |refine Zdb rfl rfl (fun K a=>?_)
   |refine Zf2 rfl rfl (fun K a=>?_)
  try simp only[List.getElem_toArray,List.getElem_cons_zero,List.getElem_cons_succ]
  go_simp;obtain⟨j,cs,M,f⟩:=L;refine(Zbv _ l _ (H.mono (Zbn j))).mono ?_;rintro e w2 ⟨d',rfl,D,i⟩;obtain⟨A',c',rfl⟩:=i.form;have P:=j.size;have J:=D.size;have o:=Zae j (Zal _ D);have u:=M.kept D;refine a.out _ _ (⟨o,_,u,f⟩) (fun g=>?_);clear a K
  try simp only[PT.wp,List.getElem_toArray,List.getElem_cons_zero,List.getElem_cons_succ,Act.put,List.setIfInBounds_toArray,List.set_cons_zero,List.set_cons_succ]
  clear g
  first
   |refine Zdb rfl rfl (fun K a=>?_)
   |refine Zf2 rfl rfl (fun K a=>?_)
  try simp only[List.getElem_toArray,List.getElem_cons_zero,List.getElem_cons_succ]
  go_simp;have hn:=Blk.new w2 9 #[.string s];have r:=Zac w2 (.cells #[.string s] 9);have G:=i.kept r;have U:=D.trans (r.mono (by omega));have E:(w2.alloc (.cells #[.string s] 9)).cell? ⟨w2.heap.size,0,none⟩=some (encS s):=hn.cell 0;refine a.out _ _ (⟨Zae o (Zal _ r),_,u.kept r,f⟩) (fun g=>?_);clear a K
  try simp only[PT.wp,List.getElem_toArray,List.getElem_cons_zero,List.getElem_cons_succ,Act.put,List.setIfInBounds_toArray,List.set_cons_zero,List.set_cons_succ]
  clear g
  first
   |refine Zdb rfl rfl (fun K a=>?_)
   |refine Zf2 rfl rfl (fun K a=>?_)
  try simp only[List.getElem_toArray,List.getElem_cons_zero,List.getElem_cons_succ]
  refine Zh9 (n:=140737488355328) (ys:=[s]) Zl0 Zir _ _ rfl rfl G U (by simp;omega) rfl (RVec.one s E (by decide)) (Za _) (by simp;omega) (by simp;omega) (fun v4 w4 b t=>?_);obtain⟨A4,c4,rfl⟩:=b.form;have p:=Zae j (Zal _ t);have x:=M.kept t;have I:=t.size;refine a.out _ _ (⟨p,_,x,f⟩) (fun g=>?_);clear a K
  try simp only[PT.wp,List.getElem_toArray,List.getElem_cons_zero,List.getElem_cons_succ,Act.put,List.setIfInBounds_toArray,List.set_cons_zero,List.set_cons_succ]
  clear g
  repeat((first|refine Zdi rfl rfl ⟨_,fun w' g=>by(skip;go_simp;exact rfl),?_⟩|refine wpPlanK_skip (by assumption) rfl rfl ?_);simp only[sx])
  first
   |refine Zdb rfl rfl (fun K a=>?_)
   |refine Zf2 rfl rfl (fun K a=>?_)
  try simp only[List.getElem_toArray,List.getElem_cons_zero,List.getElem_cons_succ]
  refine Zc1 rfl rfl rfl (n:=2) (by kernel_rfl) rfl x f rfl ?_;intro w5 C q;refine a.out _ _ (⟨Zae p q,_,C,rfl⟩) (fun g=>?_);clear a K
  try simp only[PT.wp,List.getElem_toArray,List.getElem_cons_zero,List.getElem_cons_succ,Act.put,List.setIfInBounds_toArray,List.set_cons_zero,List.set_cons_succ]
  repeat((first|refine Zdi rfl rfl ⟨_,fun w' g=>by(skip;go_simp;exact rfl),?_⟩|refine wpPlanK_skip (by assumption) rfl rfl ?_);simp only[sx])
  refine Zhw ?_;go_wp2;refine bodyPost_ret (Zag rfl rfl (by kernel_rfl) (by kernel_rfl) C rfl) rfl ?_;have S:=Zab (B:=w.heap.size) m (by omega) (Zae p q) (fun k e=>by injection e;omega);exact⟨_,rfl,S,by simpa only [Zl,List.length_singleton]using(b.grown q (by omega)).base (b':=w.heap.size) (by omega)⟩
 ·first
   |refine Zdb rfl rfl (fun K a=>?_)
   |refine Zf2 rfl rfl (fun K a=>?_)
  try simp only[List.getElem_toArray,List.getElem_cons_zero,List.getElem_cons_succ]
  go_simp;obtain⟨j,cs,M,f⟩:=L;have hn:=Blk.new W1 9 #[.string s];have r:=Zac W1 (.cells #[.string s] 9);have P:=j.size;have o:=Zae j (Zal _ r);have u:=M.kept r;refine a.out _ _ (⟨o,_,u,f⟩) (fun g=>?_);clear a K
  try simp only[PT.wp,List.getElem_toArray,List.getElem_cons_zero,List.getElem_cons_succ,Act.put,List.setIfInBounds_toArray,List.set_cons_zero,List.set_cons_succ]
  clear g
  first
   |refine Zdb rfl rfl (fun K a=>?_)
   |refine Zf2 rfl rfl (fun K a=>?_)
  try simp only[List.getElem_toArray,List.getElem_cons_zero,List.getElem_cons_succ]
  go_simp;refine(Zbv _ l _ (H.mono (Zbn o))).mono ?_;rintro e w2 ⟨d',rfl,D,i⟩;obtain⟨A',c',rfl⟩:=i.form;have J:=D.size;simp at J;have E:=(hn.kept D).cell 0;simp at E;have X:=Zae o (Zal _ D);refine a.out _ _ (⟨X,_,u.kept D,f⟩) (fun g=>?_);clear a K
  try simp only[PT.wp,List.getElem_toArray,List.getElem_cons_zero,List.getElem_cons_succ,Act.put,List.setIfInBounds_toArray,List.set_cons_zero,List.set_cons_succ]
  clear g
  first
   |refine Zdb rfl rfl (fun K a=>?_)
   |refine Zf2 rfl rfl (fun K a=>?_)
  try simp only[List.getElem_toArray,List.getElem_cons_zero,List.getElem_cons_succ]
  refine Zh9 (n:=140737488355328) (ys:=[s]) Zl0 Zir _ _ rfl rfl i D (by simp;omega) rfl (RVec.one s E (by decide)) (Za _) (by simp;omega) (by simp;omega) (fun v4 w4 b t=>?_);obtain⟨A4,c4,rfl⟩:=b.form;have p:=Zae o (Zal _ t);have x:=u.kept t;have I:=t.size;simp at I;refine a.out _ _ (⟨p,_,x,f⟩) (fun g=>?_);clear a K
  try simp only[PT.wp,List.getElem_toArray,List.getElem_cons_zero,List.getElem_cons_succ,Act.put,List.setIfInBounds_toArray,List.set_cons_zero,List.set_cons_succ]
  clear g
  repeat((first|refine Zdi rfl rfl ⟨_,fun w' g=>by(skip;go_simp;exact rfl),?_⟩|refine wpPlanK_skip (by assumption) rfl rfl ?_);simp only[sx])
  first
   |refine Zdb rfl rfl (fun K a=>?_)
   |refine Zf2 rfl rfl (fun K a=>?_)
  try simp only[List.getElem_toArray,List.getElem_cons_zero,List.getElem_cons_succ]
  refine Zc1 rfl rfl rfl (n:=2) (by kernel_rfl) rfl x f rfl ?_;intro w5 C q;refine a.out _ _ (⟨Zae p q,_,C,rfl⟩) (fun g=>?_);clear a K
  try simp only[PT.wp,List.getElem_toArray,List.getElem_cons_zero,List.getElem_cons_succ,Act.put,List.setIfInBounds_toArray,List.set_cons_zero,List.set_cons_succ]
  repeat((first|refine Zdi rfl rfl ⟨_,fun w' g=>by(skip;go_simp;exact rfl),?_⟩|refine wpPlanK_skip (by assumption) rfl rfl ?_);simp only[sx])
  refine Zhw ?_;go_wp2;refine bodyPost_ret (Zag rfl rfl (by kernel_rfl) (by kernel_rfl) C rfl) rfl ?_;have S:=Zab (B:=w.heap.size) m (by omega) (Zae p q) (fun k e=>by injection e;omega);exact⟨_,rfl,S,by simpa only [Zl,List.length_singleton]using(b.grown q (by simp;omega)).base (b':=w.heap.size) (by simp;omega)⟩
theorem Zrq(next:Int)(v:Value)(l:List ByteArray)(s:ByteArray)(w:World)(q:RTexts w.cell? v l)(D:∀s∈l,s.size≤140737488355328)(r:s.size≤140737488355328)(f:Int)(d:addF next l s=f)(k:f≠0)(i:Zdt next l=0→l.length≤40) :
 Calls prog 92 #[.agg #[.int .i64 next,v],.string s] w fun e w'=>e=.returned (.tuple #[.agg #[.int .i64 0,.slice none 0 0],.int .i64 f])∧Below w.heap.size w w':=by
 obtain⟨A,c,rfl,y,x⟩:=q.form;have t:=Zb i;have g:=Zb d;clear x i d;obtain⟨p,hp⟩:∃p,Zdt next l=p:=⟨_,rfl⟩;go_enter func92,ntmps92;go_wp2_with fail;refine(Zga next _ l _ (q.mono (Zaa (below_2 _ _ _))) D).mono ?_;rintro e w1 ⟨rfl,b⟩;rw[hp];have o:=Zb (q.mono (Zaa ((below_2 _ _ _).trans (b.mono (by simp;omega)))));obtain⟨n,d⟩:=bcell b;have m:w.heap.size+1<w1.heap.size:=by have:=b.size;simp at this;omega
 have z:Below w.heap.size w w1:=(below_2 _ _ _).trans (b.mono (by simp;omega));have B:w.heap.size<w1.heap.size:=by omega
 have u:=o.out;clear b;have a:=g.out;unfold addF at a;rw[hp]at a
 by_cases j:p=0
 ·subst j;rw[if_neg (by simp)]at a;go_wp2_with fail;refine(tx_any s _ r).mono ?_;rintro e w' ⟨rfl,rfl⟩;cases htx:txOk s
  ·rw[htx,if_neg (by simp)]at a;subst a;clear k g;go_wp2;refine bodyPost_ret (v:=.tuple #[.agg #[.int .i64 0,.slice none 0 0],.int .i64 1]) (by simp[results,Tryz.results92,go_sem,n,d,m]) rfl ⟨rfl,?_⟩
   repeat(first
    |assumption
    |exact Zm _ _
    |refine Below.drew ?_
    |(refine Below.alloc ?_ ?sa _;(case sa=>first|omega|(simp;done)|(simp;omega)))
    |(refine Below.setCell ?_ ?sa _;(case sa=>first|(dsimp only;omega)|(simp;done)|(simp;omega))))
  ·rw[htx,if_pos rfl]at a;go_wp2_with fail;refine(Zeh _ l s _ u).mono ?_;rintro e w' ⟨rfl,rfl⟩;cases hht:Zcy l s
   ·rw[hht,if_neg (by simp)]at a
    have C:l.length=40:=by
     have:=t.out hp
     by_cases h:40≤l.length
     ·omega
     ·rw[if_neg h]at a;exact absurd a.symm k
    rw[if_pos (by omega)]at a;subst a;clear k g;go_wp2;refine bodyPost_ret (v:=.tuple #[.agg #[.int .i64 0,.slice none 0 0],.int .i64 6]) (by simp[results,Tryz.results92,go_sem,n,d,m]) rfl ⟨rfl,?_⟩
    repeat(first
     |assumption
     |exact Zm _ _
     |refine Below.drew ?_
     |(refine Below.alloc ?_ ?sa _;(case sa=>first|omega|(simp;done)|(simp;omega)))
     |(refine Below.setCell ?_ ?sa _;(case sa=>first|(dsimp only;omega)|(simp;done)|(simp;omega))))
   ·rw[hht,if_pos rfl]at a;subst a;clear k g;go_wp2;refine bodyPost_ret (v:=.tuple #[.agg #[.int .i64 0,.slice none 0 0],.int .i64 7]) (by simp[results,Tryz.results92,go_sem,n,d,m]) rfl ⟨rfl,?_⟩
    repeat(first
     |assumption
     |exact Zm _ _
     |refine Below.drew ?_
     |(refine Below.alloc ?_ ?sa _;(case sa=>first|omega|(simp;done)|(simp;omega)))
     |(refine Below.setCell ?_ ?sa _;(case sa=>first|(dsimp only;omega)|(simp;done)|(simp;omega))))
 ·rw[if_pos j]at a;subst a;clear g;go_wp2;refine bodyPost_ret (v:=.tuple #[.agg #[.int .i64 0,.slice none 0 0],.int .i64 p]) (by simp[results,Tryz.results92,go_sem,n,d,m]) rfl ⟨rfl,?_⟩
  repeat(first
   |assumption
   |exact Zm _ _
   |refine Below.drew ?_
   |(refine Below.alloc ?_ ?sa _;(case sa=>first|omega|(simp;done)|(simp;omega)))
   |(refine Below.setCell ?_ ?sa _;(case sa=>first|(dsimp only;omega)|(simp;done)|(simp;omega))))
def Zkc(nx:Int)(l:List ByteArray)(au:Int):Int:=if Zdt nx l≠0 then Zdt nx l else if inB au 0 3 then(if l.length=0 then 8 else if 1048576<nx then 6 else 0)else 2
def Zho(nx:Int)(l:List ByteArray)(au:Int):Int:=if Zkc nx l au≠0 then 0 else nx+1
def Zdm(nx:Int)(l:List ByteArray)(au:Int):List ByteArray:=if Zkc nx l au≠0 then []else l.drop 4
def Zp4(nx:Int)(l:List ByteArray)(au:Int):Int:=if Zkc nx l au≠0 then 0 else au
def Zp3(nx:Int)(l:List ByteArray)(au:Int):Int:=if Zkc nx l au≠0 then 0 else nx
def Znl(nx:Int)(l:List ByteArray)(au:Int):List ByteArray:=if Zkc nx l au≠0 then []else l.take 4
theorem Zpr(w:World)(c1 c2 c3:Array Value)(t1 t2 t3:TypeId)(R:World→Prop)(h:∀W,Blk W w.heap.size t1 c1→Blk W (w.heap.size+1) t2 c2→Blk W (w.heap.size+2) t3 c3→W.heap.size=w.heap.size+3→Below w.heap.size w W→R W):R (((w.alloc (.cells c1 t1)).alloc (.cells c2 t2)).alloc (.cells c3 t3)):=by
 refine h _ (((Blk.new w t1 c1).alloc _).alloc _) ?_ ?_ (by simp) ((((Zm _ _).alloc (Za _) _).alloc (Zar _ (Za _)) _).alloc (Zar _ (Zar _ (Za _))) _)
 ·have:=(Blk.new (w.alloc (.cells c1 t1)) t2 c2).alloc (.cells c3 t3);simpa using this
 ·have:=Blk.new ((w.alloc (.cells c1 t1)).alloc (.cells c2 t2)) t3 c3;simpa using this
theorem Zbl{fn:Func}{p q u:Tmp}{t2 te2:TypeId}{g2 n n2:Nat}{cur2:Array Value}{tmps:Array Value}(h:fn.results=#[.cell p t,.cell q t2,.tmp u])(hp:tmps.getD p undef=.pointer (some ⟨g,0,none⟩))(m:tmps.getD q undef=.pointer (some ⟨g2,0,none⟩))(b:(isAgg t).run P w=.ok true w)(hi:(P.info? t).map (·.size)=some n)(l:Blk w g te cur)(hn:cur.size=n)(a:(isAgg t2).run P w=.ok true w)(c:(P.info? t2).map (·.size)=some n2)(e:Blk w g2 te2 cur2)(d:cur2.size=n2) :
 (results fn tmps).run P w=.ok (.tuple #[.agg cur,.agg cur2,tmps.getD u undef]) w:=by
 have j:=Zde (P:=P) b hi l (o:=0) (by omega);rw[List.drop_zero,List.take_of_length_le (by simp[hn])]at j;have k:=Zde (P:=P) a c e (o:=0) (by omega);rw[List.drop_zero,List.take_of_length_le (by simp[d])]at k;have f:tmps[p]?.getD undef=.pointer (some ⟨g,0,none⟩):=by simpa using hp
 have i:tmps[q]?.getD undef=.pointer (some ⟨g2,0,none⟩):=by simpa using m
 simp only[results,h];simp[Sem.run_bind,Result.andThen,f,i,asAddr,j,k]
theorem RVec.partP{n:Nat}(q:RVec enc bs h (.slice A n c) xs){lo m:Nat}(r:lo+m≤xs.length):RVec enc bs h (.slice (A.map fun x=>x.add lo) m (c-lo)) ((xs.drop lo).take m):=by
 obtain⟨A',c',e,s,p,j,f,g⟩:=q;injection e with e1 e2 e3;subst e1 e2 e3;have d:((xs.drop lo).take m).length=m:=by simp;omega
 refine⟨_,_,by rw[d],by omega,Zg (Nat.sub_le _ _) p,?_,?_,fun hp=>?_⟩
 ·rw[d];exact Zg (Nat.mul_le_mul_right _ (by omega)) j
 ·intro k;cases A with
  |none=>have:=f rfl;omega
  |some a=>simp at k
 ·obtain⟨b,o,ea,l⟩:=g (by omega);subst ea;refine⟨b,o+lo,by simp[Zbs],fun i hi=>?_⟩;rw[d]at hi;have:=l (lo+i) (by omega);rw[show o+lo+i=o+(lo+i) by omega,this];simp
theorem RVec.stubP(enc:α→Value)(bs:Nat)(h:View)(A:Option Addr){m:Nat}(a:m=0)(b:xs.length=m):RVec enc bs h (.slice A m 0) xs:=by
 subst a;have:xs=[]:=List.eq_nil_of_length_eq_zero b;subst this;exact⟨A,0,rfl,Za _,Zf _,by simp,fun _=>rfl,fun h=>by simp at h⟩
theorem Zvb(d:w.grownBy w' (some g))(f:g<b):VLe (View.from w.cell? b) (View.from w'.cell? b):=fun a v e=>by
 unfold View.from at e⊢
 split at e
 ·cases e
 ·rename_i c
  rw[if_neg c]
  exact d.cell e (by intro h;injection h;omega)
theorem Zn8(c:Below w.heap.size w W)(d:w.heap.size≤g):VLe w.cell? (View.but W.cell? (some g)):=fun a u hu=>by
 have b:=World.block_lt_of_cell? w a hu
 unfold View.but
 rw[if_neg (by intro e;injection e with e;omega)]
 exact Zaa c _ _ hu
theorem Zj1(v:Value)(l:List Sign)(s:Sign)(sd:Value)(w:World)(hv:RSigns w.cell? v l)(I:Zan w.cell? sd s.slot.digest)(hl:(l.length+1)*48≤140737488355328) :
 Calls prog 161 #[v,.agg #[.int .i64 s.node,.int .i64 s.slot.author,.int .i64 s.slot.round,sd]] w fun e w'=>∃v',e=.returned (.tuple #[v',.int .i64 (addE l s)])∧Below w.heap.size w w'∧RSl 4 RSign 48 (View.from w'.cell? w.heap.size) v' (addL l s):=by
 have hb:s.slot.digest.length*1≤140737488355328:=by obtain⟨_,_,_,_,_,h,_⟩:=I;exact h
 obtain⟨sA,sc,rfl,_⟩:=id I;obtain⟨A,c,rfl,_⟩:=id hv;obtain⟨_,hp,hm,h4⟩:=hv.at;have h8:=Zb h4;clear h4;obtain⟨F,hF⟩:∃F,Hid (Zei l=F):=⟨_,rfl⟩;obtain⟨G,hG⟩:∃G,Hid (Zle s.node s.slot.author s.slot.round s.slot.digest.length=G):=⟨_,rfl⟩;obtain⟨h,hh⟩:∃h,Hid (Zce l s=h):=⟨_,rfl⟩;have Z:Hid (addE l s=if F≠0 then F else G):=by show _=_;rw[addE,hF.out,hG.out]
 have z:Hid (addL l s=if addE l s≠0 then []else if h then l else l++[s]):=by show _=_;rw[addL,hh.out]
 generalize addE l s=E at Z z⊢;generalize addL l s=L at z⊢;have R:=Zb hl;clear hl;go_enter func161,ntmps161;go_wp2_with fail;refine Za9 _ _ _ (fun W=>Calls prog _ _ W _) (fun W r hs f=>?_);refine(Zf8 _ l _ (hv.mono RSign.mono (Zaa f))).mono ?_;rintro e w1 ⟨rfl,P⟩;rw[hF.out];have u:=f.trans (P.mono f.size);have r:=r.kept P;clear f P
 by_cases Q:F=0
 ·subst Q;have o:Hid (E=G):=by show _=_;rw[Z.out];rfl
  clear Z;have g0:=r.cell 0;have g1:=r.cell 1;have g2:=r.cell 2;have g3:=r.cell 3;simp at g0 g1 g2 g3;go_wp2_with fail;refine(Zfb _ _ _ _ _ _ _).mono ?_;rintro e w2 ⟨rfl,N⟩;rw[hG.out];have b:=u.trans (N.mono u.size);have U:=r.kept N;clear u r N g0 g1 g2 g3
  by_cases V:G=0
  ·subst V;have q:Hid (L=if h then l else l++[s]):=by show _=_;rw[z.out,o.out];rfl
   clear z;have Y:=b.size;go_wp2
   go_loopw [8,23] (fun v i wr=>∃k:Nat,k≤l.length∧i=.int .i64 k∧OwnSl 4 (RFrom w2.heap.size RSign) 121 wr w2.heap.size v (l.take k)∧Below w2.heap.size w2 wr) (fun _ i _=>l.length-(intOf i).toNat)
   case atStart=>exact⟨0,Zf _,rfl,OwnSl.nil _ _ _ _ _,Zm _ _⟩
   case round =>
    obtain⟨k,hk,rfl,x,f⟩:=hrel;have h2:=f.size
    by_cases S:k<l.length
    ·obtain⟨b0,o0,d,rfl,e0,e1,e2,e3,hd⟩:=h8.out k S;obtain⟨dA,dc,rfl,_⟩:=id hd;have m:=b.trans (f.mono Y);have c0:=Zaa m _ _ e0;have c1:=Zaa m _ _ e1;have c2:=Zaa m _ _ e2;have c3:=Zaa m _ _ e3;have T:=Zb (show(l.take k).length=k by simp;omega);have X:=Zb (show l[k].slot.digest.length*1≤140737488355328 by obtain⟨_,_,_,_,_,h,_⟩:=hd;exact h);clear e0 e1 e2 e3;go_wp2_with (refine Zj 4 (Blk.new _ _ _) ?_);intro w3 H h3;have a:Below wr.heap.size wr w3:=Zab (Zac _ _) (Zar _ (Za _)) h3 (by intro k e;injection e;omega);have t:=x.kept (RFrom.mono RSign.mono) a;have q0:=H.cell 0;have q1:=H.cell 1;have q2:=H.cell 2;have q3:=H.cell 3;simp at q0 q1 q2 q3;have hx:=a.size;clear c0 c1 c2 c3 h3;go_wp2_with fail;refine(Zlh _ _ _ _ _ _ (hd.mono (Zaa (m.trans (a.mono (by omega)))))).mono ?_;rintro e w4 ⟨d',rfl,p,o4⟩;have D:=t.kept (RFrom.mono RSign.mono) p
     have hR:RFrom w2.heap.size RSign (View.but w4.cell? u8.ownBlock) [.int .i64 l[k].node,.int .i64 l[k].slot.author,.int .i64 l[k].slot.round,d'] l[k] :=
      ⟨d',rfl,o4.reads_from (bs:=1) X.out (by have:=f.size;have:=a.size;omega) (fun g hg=>by have:=(t.lt g hg).2;omega)⟩
     obtain⟨A',c',rfl⟩:=o4.form;have ht:=p.size;have j:Below w2.heap.size w2 w4:=(f.trans (a.mono h2)).trans (p.mono (by omega));clear q0 q1 q2 q3 hd;go_wp2_with (at_builtin;go_loud (refine Zaz (n:=140737488355328) (RFrom.mono RSign.mono) l[k] [.int .i64 l[k].node,.int .i64 l[k].slot.author,.int .i64 l[k].slot.round,.slice A' l[k].slot.digest.length c'] Zo3 _ _ rfl rfl rfl D j (by omega) rfl rfl rfl rfl hR (Za _) (by rw[T.out];have:=R.out;omega) (by rw[T.out];have:=R.out;omega) ?_));intro v' w5 B M _;have h6:OwnSl 4 (RFrom w2.heap.size RSign) 121 w5 w2.heap.size v' (l.take (k+1)):=by first|exact B|(rw[Zn S];exact B)
     clear B x t D;go_wp2;go_roundw
     case rel=>exact⟨k+1,by omega,by go_num,h6,M⟩
     case measure=>simp[intOf];omega
    ·have h9:k=l.length:=by omega
     rw[h9,List.take_length]at x;have a:=b.trans (f.mono Y);have y:=U.kept f;have g0:=y.cell 0;have g1:=y.cell 1;have g2:=y.cell 2;have g3:=y.cell 3;simp at g0 g1 g2 g3;go_wp2_with fail;refine(Zf7 _ l s _ _ (hv.mono RSign.mono (Zaa a)) (I.mono (Zaa a))).mono ?_;rintro e w4 ⟨rfl,p⟩;rw[hh.out];have j:=a.trans (p.mono a.size);have J:=y.kept p;have O:=x.kept (RFrom.mono RSign.mono) p;have C:=f.trans (p.mono h2);clear g0 g1 g2 g3 U y a;cases h
     ·have z:Hid (L=l++[s]):=q.out;clear q;have g0:=J.cell 0;have g1:=J.cell 1;have g2:=J.cell 2;have g3:=J.cell 3;simp at g0 g1 g2 g3;go_wp2_with fail;refine(Zlh _ _ _ _ _ _ (I.mono (Zaa j))).mono ?_;rintro e w5 ⟨d',rfl,K,o5⟩;have B:=O.kept (RFrom.mono RSign.mono) K;have M:=j.trans (K.mono j.size)
      have hR:RFrom w2.heap.size RSign (View.but w5.cell? u8.ownBlock) [.int .i64 s.node,.int .i64 s.slot.author,.int .i64 s.slot.round,d'] s :=
       ⟨d',rfl,o5.reads_from (bs:=1) hb C.size (fun g hg=>(O.lt g hg).2)⟩
      obtain⟨A',c',rfl⟩:=o5.form;have hc:=C.size;have hn:=K.size;go_wp2_with (at_builtin;go_loud (refine Zaz (n:=140737488355328) (W:=w2) (RFrom.mono RSign.mono) s [.int .i64 s.node,.int .i64 s.slot.author,.int .i64 s.slot.round,.slice A' s.slot.digest.length c'] Zo3 _ _ rfl rfl rfl B (C.trans (K.mono hc)) (by omega) rfl rfl rfl rfl hR (Za _) R.out (by have:=R.out;omega) ?_));intro v' w6 h7 h1 _;have he:=(h7.reads_from (bs:=48) RSign.mono (by simpa using R.out)).mono RSign.mono (Zbm (b':=w.heap.size) b.size);have h0:Below w.heap.size w w6:=b.trans (h1.mono b.size);go_wp2;go_ret2;exact⟨_,by rw[o.out];rfl,h0,by rw[z.out];exact he⟩
     ·have z:Hid (L=l):=q.out;clear q;have hr:=(O.reads_from (bs:=48) RSign.mono (by have:=R.out;omega)).mono RSign.mono (Zbm (b':=w.heap.size) b.size);go_wp2;go_ret2;exact⟨_,by rw[o.out];rfl,j,by rw[z.out];exact hr⟩
  ·have q:Hid (L=[]):=by show _=_;rw[z.out,if_pos (by rw[o.out];exact V)]
   clear z;go_wp2;go_ret2;exact⟨_,by rw[o.out];rfl,b,by rw[q.out];exact RSl.nil _ _ _ _⟩
 ·have o:Hid (E=F):=by show _=_;rw[Z.out,if_pos Q]
  have q:Hid (L=[]):=by show _=_;rw[z.out,if_pos (by rw[o.out];exact Q)]
  clear z Z;go_wp2;go_ret2;exact⟨_,by rw[o.out];rfl,u,by rw[q.out];exact RSl.nil _ _ _ _⟩
theorem RVec.cutN{n:Nat}(s:RVec enc bs h (.slice A n c) xs){m:Nat}(f:k≤xs.length)(l:k≤m)(d:m≤c):RVec enc bs h (.slice A k m) (xs.take k):=by
 obtain⟨A',c',e,t,r,p,g,j⟩:=s;injection e with e1 e2 e3;subst e1 e2 e3;have a:(xs.take k).length=k:=by simp;omega
 refine⟨A,m,by rw[a],by omega,Zg d r,by rw[a];exact Zg (Nat.mul_le_mul_right _ f) p,fun h=>by have:=g h;omega,fun hp=>?_⟩;obtain⟨b,o,ea,q⟩:=j (by omega);refine⟨b,o,ea,fun i hi=>?_⟩;rw[a]at hi;rw[q i (by omega),List.getElem_take]
def RBut(B:Nat)(R:View→List Value→α→Prop):View→List Value→α→Prop:=fun h cs x=>R (View.but h (some B)) cs x
theorem but_mono{d:View}{g:Option Nat}(b:VLe h d):VLe (View.but h g) (View.but d g):=fun a v e=>by
 unfold View.but at e⊢
 split at e
 ·cases e
 ·rename_i c
  rw[if_neg c]
  exact b _ _ e
theorem RBut.mono{B:Nat}(b:Mono R):Mono (RBut B R):=fun h d cs x c a=>b _ _ _ _ c (but_mono a)
theorem OwnSl.toBut(c:Mono R)(h:OwnSl sz R e w b v xs):OwnSl sz (RBut w.heap.size R) e w b v xs:=by
 obtain⟨css,f,j,g⟩:=h.own;refine⟨css,f,j,fun i hi=>?_⟩;obtain⟨cs,q1,q2,q3⟩:=g i hi;refine⟨cs,q1,q2,c _ _ _ _ q3 fun a u hu=>?_⟩;have d:=World.block_lt_of_cell? w a (View.but_le _ _ _ _ hu);unfold View.but;rw[if_neg (by intro e;injection e with e;omega)];exact hu
theorem OwnSl.ofBut{B:Nat}(c:Mono R)(h:OwnSl sz (RBut B R) e w b v xs):OwnSl sz R e w b v xs:=by
 obtain⟨css,a,d,f⟩:=h.own;refine⟨css,a,d,fun i hi=>?_⟩;obtain⟨cs,q1,q2,q3⟩:=f i hi;exact⟨cs,q1,q2,c _ _ _ _ q3 (View.but_le _ _)⟩
theorem OwnSl.butGrown{B:Nat}(j:Mono R)(h:OwnSl sz (RBut B R) e w b v xs)(g:w.grownBy w' (some B))(f:v.ownBlock≠some B):OwnSl sz (RBut B R) e w' b v xs:=by
 obtain⟨css,k,m,l⟩:=h.own;refine⟨css,k.kept g (.inr f),m,fun i hi=>?_⟩;obtain⟨cs,q1,q2,q3⟩:=l i hi;refine⟨cs,q1,q2,j _ _ _ _ q3 fun a u hu=>?_⟩;unfold View.but at hu⊢;split at hu
 ·cases hu
 ·rename_i c;rw[if_neg c];split at hu
  ·cases hu
  ·rename_i d;rw[if_neg d];exact g.cell hu c
end Go.Proofs.YtbcpbnfojfiekaaGreatDoor
