/- A part of what the last text stands on. -/
import Derived.Deep.DeepCutAuto
import Derived.Deep.CutBlock
import Derived.Test.YtbcpbnfojfiekaaGreatDoorK02
import Derived.Test.YtbcpbnfojfiekaaGreatDoorK03
namespace Go.Proofs.YtbcpbnfojfiekaaGreatDoor
open Go.ChangeShapes Go.WideShapes Go.ChangeAt Go.RowKit Go.Proofs.Tryz Qa Qb Qc
set_option linter.all false
set_option maxHeartbeats 20000000
set_option maxRecDepth 100000
variable{w w' W:World}{v:Value}{A:Option Addr}{h:View}{e:TypeId}{k g sz bs b c:Nat}{α:Type}{xs:List α}{enc:α→Value}{R:View→List Value→α→Prop}
theorem OwnSl.reads_from(f:Mono R)(h:OwnSl sz (RFrom b R) e w b v xs)(d:xs.length*bs≤140737488355328):RSl sz R bs (View.from w.cell? b) v xs:=by
 have a:=h.lt;obtain⟨A,c,e1,q1,q2,q3,q4,q5⟩:=h.reads (RFrom.mono f) d;refine⟨A,c,e1,q1,q2,q3,q4,fun hp=>?_⟩;obtain⟨g,o,ea,l⟩:=q5 hp;refine⟨g,o,ea,fun i hi=>?_⟩;have m:=(a g (by rw[e1,ea];rfl)).1;obtain⟨cs,k1,k2,k3⟩:=l i hi;refine⟨cs,k1,fun j k=>?_,k3⟩;unfold View.from;rw[if_neg (by simp;omega)];exact k2 j k
theorem OwnVec.reads_from{base:Nat}(h:OwnVec enc e w base v xs)(l:xs.length*bs≤140737488355328){b0:Nat}(d:b0≤base){g:Option Nat}(f:∀k,g=some k→k<base):RVec enc bs (View.from (View.but w.cell? g) b0) v xs:=by
 have a:=h.own.lt;obtain⟨A,c,e1,q1,q2,q3,q4,q5⟩:=h.reads_but l f;refine⟨A,c,e1,q1,q2,q3,q4,fun hp=>?_⟩;obtain⟨b,o,ea,j⟩:=q5 hp;refine⟨b,o,ea,fun i hi=>?_⟩;have m:=(a b (by rw[e1,ea];rfl)).1;unfold View.from;rw[if_neg (by simp;omega)];exact j i hi
theorem OwnVec.from_{base:Nat}(h:OwnVec enc e w base v xs)(b:xs.length*bs≤140737488355328){b0:Nat}(a:b0≤base):RVec enc bs (View.from w.cell? b0) v xs :=
 (h.reads_from b a (g:=none) (by simp)).mono (Za0 _ (View.but_le _ _))
theorem RVec.len(a:RVec enc bs h v xs):xs.length*bs≤140737488355328:=by obtain⟨A,c,_,_,_,h,_⟩:=a;exact h
def RDig(h:View)(cs:List Value)(x:List UInt8):Prop:=∃d,cs=[d]∧Zan h d x
theorem RDig.mono:Mono RDig:=fun h b cs x ⟨d,e,hd⟩ a=>⟨d,e,RVec.mono hd a⟩
abbrev RDigs:=RSl 1 RDig 24
theorem Ze2:Elem prog 74 53 1 24:=Zo4 (z:=.slice none 0 0) underlying74 (by kernel_rfl) rfl (by decide)
theorem RDigs.at{h:View}{A:Option Addr}{n c:Nat}{xs:List (List UInt8)}(m:RDigs h (.slice A n c) xs):n=xs.length∧n≤c∧n*24≤140737488355328∧∀k (f:k<xs.length),∃b o d,A=some ⟨b,o,none⟩∧h ⟨b,o+k,none⟩=some d∧Zan h d xs[k]:=by
 obtain⟨A',c',e,g,_,l,_,i⟩:=m;injection e with e1 e2 e3;subst e1 e2 e3;refine⟨rfl,g,l,fun k f=>?_⟩;obtain⟨b,o,ea,j⟩:=i (by omega);obtain⟨cs,p,a,d,rfl,hd⟩:=j k f;have:=a 0 (by omega);rw[Nat.mul_one,Nat.add_zero]at this;exact⟨b,o,d,ea,this,hd⟩
def Zjt(l:List (List UInt8))(i:Nat):Int:=match l[i]? with|some x=>if x.length=32 then(if (l.take i).any (·==x)then 7 else 0)else 4|none=>0
def Ze3(l:List (List UInt8)):Int:=match (List.range l.length).find? (fun i=>Zjt l i != 0)with|some i=>Zjt l i|none=>0
theorem Zq0{l:List (List UInt8)}(a:k<l.length)(h:¬l[k].length=32):Zjt l k=4:=by
 unfold Zjt;rw[Zp a];simp[h]
theorem Zsp{l:List (List UInt8)}(a:k<l.length)(h:l[k].length=32):Zjt l k=if (l.take k).any (·==l[k])then 7 else 0:=by
 unfold Zjt;rw[Zp a];simp[h]
theorem Zl3{l:List (List UInt8)}{f:Int}(c:k<l.length)(h:∀j,j<k→Zjt l j=0)(a:Zjt l k=f)(b:f≠0):Ze3 l=f:=by
 have:(List.range l.length).find? (fun i=>Zjt l i != 0)=some k:=by
  rw[List.find?_range_eq_some];exact⟨by simp[a,b],List.mem_range.2 c,fun j d=>by simp[h j d]⟩
 unfold Ze3;simp only[this,a]
theorem Zvg{l:List (List UInt8)}(h:∀j,j<l.length→Zjt l j=0):Ze3 l=0:=by
 have:(List.range l.length).find? (fun i=>Zjt l i != 0)=none:=by
  rw[List.find?_eq_none];intro x a;simp[h x (List.mem_range.1 a)]
 unfold Ze3;simp only[this]
theorem Zkv{p:Nat→Int}(h:∀j,j<k→p j=0)(b:p k=0):∀j,j<k+1→p j=0:=fun j c=>by
 rcases Nat.lt_or_ge j k with a|a
 ·exact h j a
 ·have:j=k:=by omega
  subst this;exact b
theorem Ze:Mono RDig:=RDig.mono
def txOk(s:ByteArray):Bool:=decide (1≤s.size∧s.size≤20)
def Zcs(au nu:Int)(l:List ByteArray):Int:=if !inB au 0 3|| !inB nu 1 1048576 then 2 else if l.length<1∨4<l.length then 1 else if l.all txOk then 0 else 1
theorem RTexts.form{xs:List ByteArray}(i:RTexts h v xs):∃A c,v=.slice A xs.length c∧xs.length*16≤140737488355328∧∀k (a:k<xs.length),∃b o,A=some ⟨b,o,none⟩∧h ⟨b,o+k,none⟩=some (.string xs[k]):=by
 obtain⟨A,c,e,_,_,f,_,d⟩:=i;refine⟨A,c,e,f,fun k a=>?_⟩;obtain⟨b,o,ea,g⟩:=d (by omega);exact⟨b,o,ea,g k a⟩
theorem all_ok{l:List ByteArray}(h:∀j (b:j<l.length),txOk l[j]=true):l.all txOk=true:=by
 rw[List.all_eq_true];intro x a;obtain⟨i,hi,rfl⟩:=List.getElem_of_mem a;exact h i hi
theorem Zyx{l:List ByteArray}(a:k<l.length)(h:txOk l[k]=false):l.all txOk=false:=by
 rw[List.all_eq_false];exact⟨l[k],List.getElem_mem a,by simp[h]⟩
theorem Zht(au nu:Int)(v:Value)(l:List ByteArray)(w:World)(E:RTexts w.cell? v l)(F:∀s∈l,s.size≤140737488355328) :
 Calls prog 71 #[.agg #[.int .i64 au,.int .i64 nu,v]] w fun e w'=>e=.returned (.int .i64 (Zcs au nu l))∧Below w.heap.size w w':=by
 obtain⟨A,c,rfl,D,y⟩:=E.form;have z:=Zb y;have J:=Zb F;clear y E F;have n:∀x,Zcs au nu l=x→Hid (Zcs au nu l=x):=fun x h=>h
 cases ha:inB au 0 3
 ·have p:=n 2 (by simp[Zcs,ha]);clear n;go_enter func71,ntmps71;go_wp2_with (first|(go_at_call 70;refine(Za5 _ _).mono ?_;rintro e w' ⟨rfl,rfl⟩)|(go_at_call 75;refine(count_any _ _).mono ?_;rintro e w' ⟨rfl,rfl⟩));go_ret;exact⟨Zak p.out.symm,(Zm _ _).alloc (Za _) _⟩
 cases hb:inB nu 1 1048576
 ·have p:=n 2 (by simp[Zcs,ha,hb]);clear n;go_enter func71,ntmps71;go_wp2_with (first|(go_at_call 70;refine(Za5 _ _).mono ?_;rintro e w' ⟨rfl,rfl⟩)|(go_at_call 75;refine(count_any _ _).mono ?_;rintro e w' ⟨rfl,rfl⟩));go_ret;exact⟨Zak p.out.symm,(Zm _ _).alloc (Za _) _⟩
 by_cases t:l.length<1
 ·have f:l.length<1∨4<l.length:=.inl t;have p:=n 1 (by simp only[Zcs,ha,hb];rw[if_neg (by simp),if_pos f]);clear f n;have G:l.length=0:=by omega
  rw[G];clear t;go_enter func71,ntmps71;go_wp2_with (first|(go_at_call 70;refine(Za5 _ _).mono ?_;rintro e w' ⟨rfl,rfl⟩)|(go_at_call 75;refine(count_any _ _).mono ?_;rintro e w' ⟨rfl,rfl⟩));go_ret;exact⟨Zak p.out.symm,(Zm _ _).alloc (Za _) _⟩
 by_cases C:4<l.length
 ·have f:l.length<1∨4<l.length:=.inr C;have p:=n 1 (by simp only[Zcs,ha,hb];rw[if_neg (by simp),if_pos f]);clear f n;go_enter func71,ntmps71;go_wp2_with (first|(go_at_call 70;refine(Za5 _ _).mono ?_;rintro e w' ⟨rfl,rfl⟩)|(go_at_call 75;refine(count_any _ _).mono ?_;rintro e w' ⟨rfl,rfl⟩));go_ret;exact⟨Zak p.out.symm,(Zm _ _).alloc (Za _) _⟩
 have q:Hid (Zcs au nu l=if l.all txOk then 0 else 1):=by
  show _=_;simp only[Zcs,ha,hb];rw[if_neg (by simp),if_neg (by omega)]
 clear n;go_enter func71,ntmps71;go_wp2_with (first|(go_at_call 70;refine(Za5 _ _).mono ?_;rintro e w' ⟨rfl,rfl⟩)|(go_at_call 75;refine(count_any _ _).mono ?_;rintro e w' ⟨rfl,rfl⟩))
 go_loop [28] (fun i=>∃k:Nat,k≤l.length∧i=.int .i64 k∧Hid (∀j (r:j<l.length),j<k→txOk l[j]=true)) (fun i=>l.length-(intOf i).toNat)
 case atStart=>exact⟨0,Zf _,rfl,fun j _ r=>by omega⟩
 case round =>
  obtain⟨k,M,rfl,u⟩:=hrel
  by_cases m:k<l.length
  ·obtain⟨b0,o0,rfl,b⟩:=z.out k m;have B:=Zhf b;clear b;have I:=J.out l[k] (List.getElem_mem m)
   by_cases L:l[k].size<1
   ·have a:txOk l[k]=false:=by simp[txOk];omega
    have d:=Zb a;clear a;go_wp2;go_ret;exact⟨Zak (by rw[q.out,Zyx m d.out];rfl),(Zm _ _).alloc (Za _) _⟩
   by_cases K:20<l[k].size
   ·have a:txOk l[k]=false:=by simp[txOk];omega
    have d:=Zb a;clear a;go_wp2;go_ret;exact⟨Zak (by rw[q.out,Zyx m d.out];rfl),(Zm _ _).alloc (Za _) _⟩
   ·have g:txOk l[k]=true:=by simp[txOk];omega
    have o:=Zb g;clear g;go_wp2;go_round
    case rel=>exact⟨k+1,by omega,by go_num,fun j r H=>by
     by_cases e:j=k
     ·subst e;exact o.out
     ·exact u.out j r (by omega)⟩
    case measure=>simp[intOf];omega
  ·go_wp2;go_ret;exact⟨Zak (by rw[q.out,all_ok (fun j r=>u.out j r (by omega))];rfl),(Zm _ _).alloc (Za _) _⟩
def Zlx(l:List (List UInt8))(y:List UInt8):Bool:=l.any (·==y)
theorem Zx9(x y:List UInt8)(d yd:Value)(b1:Nat)(w:World)(b:w.cell? ⟨b1,0,none⟩=some yd)(hd:Zan w.cell? d x)(a:Zan w.cell? yd y) :
 Calls prog 170 #[d,.pointer (some ⟨b1,0,none⟩)] w fun e w'=>e=.returned (.bool (x==y))∧w=w':=by
 go_enter func170,ntmps170;go_wp2_with fail
 refine(Zb7 _ _ x y _ hd a).mono ?_;rintro e w' ⟨rfl,rfl⟩;go_wp2;go_ret;exact⟨rfl,rfl⟩
theorem Zqq(vl:Value)(l:List (List UInt8))(y:List UInt8)(yd:Value)(b1:Nat)(w:World)(n:RDigs w.cell? vl l)(r:w.cell? ⟨b1,0,none⟩=some yd)(q:Zan w.cell? yd y) :
 Calls prog 179 #[vl,.func (.func 170) #[] #[.pointer (some ⟨b1,0,none⟩)]] w fun e w'=>∃i:Int,e=.returned (.int .i64 i)∧decide (0≤i)=Zlx l y∧Below w.heap.size w w':=by
 obtain⟨A,c,rfl,_⟩:=id n;obtain⟨_,u,v,m⟩:=n.at;have p:=Zb m;have x:=Zb r;have t:=Zb q;clear n m q r;go_enter func179,ntmps179;go_wp2
 go_loopw [8] (fun i wr=>∃k:Nat,k≤l.length∧i=.int .i64 k∧Hid (∀j (g:j<l.length),j<k→(l[j]==y)=false)∧Below w.heap.size w wr) (fun i _=>l.length-(intOf i).toNat)
 case atStart=>exact⟨0,Zf _,rfl,fun j _ g=>by omega,Zm _ _⟩
 case round =>
  obtain⟨k,h,rfl,f,a⟩:=hrel
  by_cases b:k<l.length
  ·obtain⟨b0,o0,d,rfl,q0,hd⟩:=p.out k b;have c0:=Zaa a _ _ q0;have z:=Zb (hd.mono (Zaa a));clear hd q0;go_wp2_with fail;refine(Zx9 l[k] y d yd b1 _ (Zaa a _ _ x.out) z.out (t.out.mono (Zaa a))).mono ?_;rintro e w1 ⟨rfl,rfl⟩;cases e1:(l[k]==y)
   ·have o:=Zb e1;clear e1;go_wp2;go_roundw
    case rel=>exact⟨k+1,by omega,by go_num,fun j g s=>by
     by_cases e:j=k
     ·subst e;exact o.out
     ·exact f.out j g (by omega),a⟩
    case measure=>simp[intOf];omega
   ·have o:=Zb e1;clear e1;go_wp2;go_ret;exact⟨(k:Int),rfl,by rw[show Zlx l y=true from Zg1 b o.out];simp,a⟩
  ·go_wp2;go_ret;exact⟨-1,rfl,by rw[show Zlx l y=false from Zgh fun j g=>f.out j g (by omega)];rfl,a⟩
theorem Zl7(vl:Value)(l:List (List UInt8))(y:List UInt8)(yd:Value)(b1:Nat)(w:World)(f:RDigs w.cell? vl l)(g:w.cell? ⟨b1,0,none⟩=some yd)(d:Zan w.cell? yd y) :
 Calls prog 169 #[vl,.func (.func 170) #[] #[.pointer (some ⟨b1,0,none⟩)]] w fun e w'=>e=.returned (.bool (Zlx l y))∧Below w.heap.size w w':=by
 go_enter func169,ntmps169;go_wp2_with fail
 refine(Zqq vl l y yd b1 _ f g d).mono ?_;rintro e w1 ⟨i,rfl,hi,c⟩
 by_cases a:0≤i
 ·have b:Hid (Zlx l y=true):=hi.symm.trans (decide_eq_true a);clear hi;go_wp2;go_ret;exact⟨Zao b.out.symm,c⟩
 ·have b:Hid (Zlx l y=false):=hi.symm.trans (decide_eq_false a);clear hi;go_wp2;go_ret;exact⟨Zao (by rw[b.out];simp[a]),c⟩
theorem Zl4(v:Value)(l:List (List UInt8))(w:World)(s:RDigs w.cell? v l) :
 Calls prog 110 #[v] w fun e w'=>e=.returned (.int .i64 (Ze3 l))∧Below w.heap.size w w':=by
 obtain⟨A,c,rfl,_⟩:=id s;obtain⟨_,D,B,r⟩:=s.at;have t:=Zb r;have E:=Zb s;clear r s;go_enter func110,ntmps110;go_wp2
 go_loopw [7] (fun i wr=>∃k:Nat,k≤l.length∧i=.int .i64 k∧Hid (∀j,j<k→Zjt l j=0)∧Below w.heap.size w wr) (fun i _=>l.length-(intOf i).toNat)
 case atStart=>exact⟨0,Zf _,rfl,fun j G=>by omega,Zm _ _⟩
 case round =>
  obtain⟨k,I,rfl,m,a⟩:=hrel
  by_cases b:k<l.length
  ·obtain⟨b0,o0,d,rfl,q0,hd⟩:=t.out k b;obtain⟨dA,dc,rfl,_⟩:=id hd;have c0:=Zaa a _ _ q0;have H:k≤c:=by omega
   have h:(k:Int)≤(c:Int):=by omega
   by_cases f:l[k].length=32
   ·have C:=Zb (hd.mono (Zaa a));have g:=Zb (Zsp b f);have q:=Zb ((E.out.take (k:=k) (by omega)).mono Ze (Zaa a));clear hd q0;rw[f]at c0;have y:Hid (Zan wr.cell? (.slice dA 32 dc) l[k]):=Zb (by have:=C.out;rw[f]at this;exact this);clear C;go_wp2_with fail;refine Za9 _ _ _ (fun W=>Calls prog _ _ W _) (fun W x F p=>?_);have g0:=x.cell 0;simp at g0;have n:Below w.heap.size w W:=a.trans (p.mono a.size);refine(Zl7 _ (l.take k) l[k] _ _ _ (q.out.mono Ze (Zaa p)) g0 (y.out.mono (Zaa p))).mono ?_;rintro e w1 ⟨rfl,u⟩;have o:=n.trans (u.mono n.size);cases ht:Zlx (l.take k) l[k]
    ·have z:=Zb ht;clear ht;go_wp2;go_roundw
     case rel=>exact⟨k+1,by omega,by go_num,Zkv m.out (by rw[g.out];exact if_neg (by rw[show(l.take k).any (·==l[k])=false from z.out];decide)),o⟩
     case measure=>simp[intOf];omega
    ·have z:=Zb ht;clear ht;go_wp2;go_ret;exact⟨Zak (Zl3 b m.out (by rw[g.out];exact if_pos z.out) (by decide)).symm,o⟩
   ·have g:=Zb (Zq0 b f);clear hd q0;go_wp2;go_ret;exact⟨Zak (Zl3 b m.out g.out (by decide)).symm,a.trans ((Zac _ _).mono a.size)⟩
  ·go_wp2;go_ret;exact⟨Zak (Zvg fun j G=>m.out j (by omega)).symm,a⟩
def Zb5(a r:Int)(b p:List (List UInt8)):Int :=
 if inB a 0 3&&inB r 1 1048576 then(if 3<b.length∨4<p.length then 1 else if Ze3 b≠0 then Ze3 b else if Ze3 p≠0 then Ze3 p else if (r=1∧0<p.length)∨(1<r∧p.length<3)then 10 else 0)else 2
theorem Zdr(a r:Int)(vb vp:Value)(b p:List (List UInt8))(w:World)(t:RDigs w.cell? vb b)(hp:RDigs w.cell? vp p) :
 Calls prog 72 #[.agg #[.int .i64 a,.int .i64 r,vb,vp]] w fun e w'=>e=.returned (.int .i64 (Zb5 a r b p))∧Below w.heap.size w w':=by
 obtain⟨bA,bc,rfl,_⟩:=id t;obtain⟨pA,pc,rfl,_⟩:=id hp;obtain⟨_,y,B,_⟩:=t.at;obtain⟨_,C,u,_⟩:=hp.at;have F:=Zb t;have H:=Zb hp;clear t hp;have k:∀x,Zb5 a r b p=x→Hid (Zb5 a r b p=x):=fun x h=>h
 cases ha:inB a 0 3
 ·have c:=k 2 (by simp[Zb5,ha]);clear k;go_enter func72,ntmps72;go_wp2_with (first|(go_at_call 70;refine(Za5 _ _).mono ?_;rintro e w' ⟨rfl,rfl⟩)|(go_at_call 75;refine(count_any _ _).mono ?_;rintro e w' ⟨rfl,rfl⟩));go_ret;exact⟨Zak c.out.symm,Zac _ _⟩
 cases hr:inB r 1 1048576
 ·have c:=k 2 (by simp[Zb5,ha,hr]);clear k;go_enter func72,ntmps72;go_wp2_with (first|(go_at_call 70;refine(Za5 _ _).mono ?_;rintro e w' ⟨rfl,rfl⟩)|(go_at_call 75;refine(count_any _ _).mono ?_;rintro e w' ⟨rfl,rfl⟩));go_ret;exact⟨Zak c.out.symm,Zac _ _⟩
 have I:1≤r:=by simp[inB]at hr;omega
 by_cases L:3<b.length
 ·have c:=k 1 (by simp only[Zb5,ha,hr];rw[if_pos (by rfl),if_pos (.inl L)]);clear k;go_enter func72,ntmps72;go_wp2_with (first|(go_at_call 70;refine(Za5 _ _).mono ?_;rintro e w' ⟨rfl,rfl⟩)|(go_at_call 75;refine(count_any _ _).mono ?_;rintro e w' ⟨rfl,rfl⟩));go_ret;exact⟨Zak c.out.symm,Zac _ _⟩
 by_cases K:4<p.length
 ·have c:=k 1 (by simp only[Zb5,ha,hr];rw[if_pos (by rfl),if_pos (.inr K)]);clear k;go_enter func72,ntmps72;go_wp2_with (first|(go_at_call 70;refine(Za5 _ _).mono ?_;rintro e w' ⟨rfl,rfl⟩)|(go_at_call 75;refine(count_any _ _).mono ?_;rintro e w' ⟨rfl,rfl⟩));go_ret;exact⟨Zak c.out.symm,Zac _ _⟩
 have l:Hid (Zb5 a r b p=if Ze3 b≠0 then Ze3 b else if Ze3 p≠0 then Ze3 p else if (r=1∧0<p.length)∨(1<r∧p.length<3)then 10 else 0):=by
  show _=_;simp only[Zb5,ha,hr];rw[if_pos (by rfl),if_neg (by omega)]
 clear k;have D:=Zac w (.cells #[.int .i64 a,.int .i64 r,.slice bA b.length bc,.slice pA p.length pc] 76);go_enter func72,ntmps72;go_wp2_with (first|(go_at_call 70;refine(Za5 _ _).mono ?_;rintro e w' ⟨rfl,rfl⟩)|(go_at_call 75;refine(count_any _ _).mono ?_;rintro e w' ⟨rfl,rfl⟩)|fail);refine Za9 _ _ _ (fun W=>Calls prog _ _ W _) (fun W j E o=>?_);have g0:=j.cell 0;have g1:=j.cell 1;have g2:=j.cell 2;have g3:=j.cell 3;simp at g0 g1 g2 g3;refine(Zl4 _ b _ (F.out.mono Ze (Zaa o))).mono ?_;rintro e w1 ⟨rfl,s⟩;have g:=o.trans (s.mono o.size);have z:=Zb (H.out.mono Ze (Zaa g));have c1:=Zaa s _ _ g1;have c3:=Zaa s _ _ g3;clear g0 g1 g2 g3
 by_cases q:Ze3 b=0
 ·rw[q]
  have i:Hid (Zb5 a r b p=if Ze3 p≠0 then Ze3 p else if (r=1∧0<p.length)∨(1<r∧p.length<3)then 10 else 0):=by
   show _=_;rw[l.out,if_neg (by simp[q])]
  clear l;go_wp2_with fail;refine(Zl4 _ p _ z.out).mono ?_;rintro e w2 ⟨rfl,n⟩;have f:=g.trans (n.mono g.size);have d1:=Zaa n _ _ c1;have d3:=Zaa n _ _ c3;clear c1 c3
  by_cases m:Ze3 p=0
  ·rw[m]
   have d:Hid (Zb5 a r b p=if (r=1∧0<p.length)∨(1<r∧p.length<3)then 10 else 0):=by
    show _=_;rw[i.out,if_neg (by simp[m])]
   clear i
   by_cases A:r=1
   ·subst A
    by_cases v:p.length=0
    ·have c:Hid (Zb5 a 1 b p=0):=by show _=_;rw[d.out,if_neg (by omega)]
     clear d;rw[v]at d3;go_wp2;go_ret;exact⟨Zak c.out.symm,f⟩
    ·have c:Hid (Zb5 a 1 b p=10):=by show _=_;rw[d.out,if_pos (by omega)]
     clear d;go_wp2;go_ret;exact⟨Zak c.out.symm,f⟩
   ·have G:1<r:=by omega
    by_cases J:p.length<3
    ·have c:Hid (Zb5 a r b p=10):=by show _=_;rw[d.out,if_pos (by omega)]
     clear d;go_wp2;go_ret;exact⟨Zak c.out.symm,f⟩
    ·have c:Hid (Zb5 a r b p=0):=by show _=_;rw[d.out,if_neg (by omega)]
     clear d;go_wp2;go_ret;exact⟨Zak c.out.symm,f⟩
  ·have c:Hid (Zb5 a r b p=Ze3 p):=by show _=_;rw[i.out,if_pos m]
   clear i;go_wp2;go_ret;exact⟨Zak c.out.symm,f⟩
 ·have c:Hid (Zb5 a r b p=Ze3 b):=by show _=_;rw[l.out,if_pos q]
  clear l;go_wp2;go_ret;exact⟨Zak c.out.symm,g⟩
theorem Zel(c:Below w.heap.size w W)(d:w.heap.size≤g):VLe w.cell? (View.but W.cell? (some g)):=fun a u hu=>by
 have b:=World.block_lt_of_cell? w a hu
 unfold View.but
 rw[if_neg (by intro e;injection e with e;omega)]
 exact Zaa c _ _ hu
theorem Zdf{b':Nat}(j:b'≤b)(c:VLe h (View.from w.cell? b))(f:w.grownBy w' (some g))(d:g<b):VLe h (View.from w'.cell? b'):=fun a v e=>by
 have:=c a v e
 unfold View.from at this⊢
 split at this
 ·cases this
 ·rename_i i
  rw[if_neg (by omega)]
  exact f.cell this (by intro h;injection h;omega)
def Zbc(l:List UInt8)(a:Int):Bool:=decide (0≤a∧a≤l.length∧l.length≤400000)
theorem Ze7(w:World)(o1 o2:Obj):Below w.heap.size w ((w.alloc o1).alloc o2):=((Zm _ _).alloc (Za _) _).alloc (Zar _ (Za _)) _
theorem Zw9(a:Int)(A:Option Addr)(c:Nat)(l:List UInt8)(w:World)(i:l.length≤140737488355328)(b:Zbc l a=false) :
 Calls prog 202 #[.agg #[.slice A l.length c,.int .i64 a]] w fun e w'=>e=.returned (.tuple #[.agg #[.slice none 0 0,.int .i64 0],.bool false])∧Below w.heap.size w w':=by
 have d:=Zb b;clear b
 by_cases f:a<0
 rotate_left
 by_cases j:(l.length:Int)<a
 rotate_left
 have g:400000<l.length:=by have:=d.out;simp[Zbc]at this;omega
 all_goals
  go_enter func202,ntmps202;go_wp2
  refine bodyPost_ret (v:=.tuple #[.agg #[.slice none 0 0,.int .i64 0],.bool false]) (by simp[results,Tryz.results202,go_sem]) rfl ⟨rfl,?_⟩;exact Ze7 _ _ _
theorem Zin(a:Int)(v:Value)(l:List UInt8)(w:World)(D:Zan w.cell? v l)(F:Zbc l a=true) :
 Calls prog 202 #[.agg #[v,.int .i64 a]] w fun e w'=>∃d,e=.returned (.tuple #[.agg #[d,.int .i64 a],.bool true])∧Below w.heap.size w w'∧OwnB w' w.heap.size d l:=by
 have H:0≤a∧a≤l.length∧l.length≤400000:=by simpa[Zbc]using F
 obtain⟨m1,m2,m3⟩:=H;clear F;obtain⟨A,c,rfl,_⟩:=id D;go_enter func202,ntmps202;go_wp2;refine Za8 _ _ _ _ _ (fun W=>(Code.region _ _ _).wp _ _ _ W) (fun W o x G j=>?_);have u:=D.below_but j (Nat.le_succ _)
 refine Zch (fun w'=>W.grownBy w' (some (w.heap.size+1))∧∃cs,Blk w' (w.heap.size+1) 110 cs∧cs.size=2) [(0,true),(1,true),(3,true),(4,true),(2,false),(5,true),(6,false),(7,true)] (by kernel_rfl) (by kernel_rfl) (fun _ _ d _ _ h=>by cases d<;>exact h) rfl (by kernel_rfl) ?_ ?_
 ·exact⟨Zbf _ _,_,x,rfl⟩
 intro W1 z
 repeat((first|refine Zbd rfl rfl ⟨_,fun w' g=>by(have p:=o.grown g.1 (by simp);have s:=p.cell 0;have t:=p.cell 1;simp at s t;go_simp;exact rfl),?_⟩|refine Zbi (by assumption) rfl rfl ?_);simp only[sx])
 refine Zd2 rfl rfl fun K q=>?_
 try simp only[sy]
 go_simp;obtain⟨b,cs,C,i⟩:=z;refine(Zcj _ _ _ (u.mono (Zbn b))).mono ?_;rintro e w1 ⟨d',rfl,r,f⟩;obtain⟨A',c',rfl⟩:=f.form;refine q.out _ _ (⟨Zae b (Zal _ r),_,C.kept r,i⟩) fun g=>?_
 clear q K
 try simp only[sx]
 repeat((first|refine Zbd rfl rfl ⟨_,fun w' g=>by(have p:=o.grown g.1 (by simp);have s:=p.cell 0;have t:=p.cell 1;simp at s t;go_simp;exact rfl),?_⟩|refine Zbi (by assumption) rfl rfl ?_);simp only[sx])
 refine Zd2 rfl rfl fun K q=>?_
 try simp only[sy]
 refine Zc1 rfl rfl rfl (n:=2) (by kernel_rfl) rfl (C.kept r) i rfl ?_;intro w2 m y;have E:=b.size;refine q.out _ _ (⟨Zae g.1 y,_,m,rfl⟩) fun g=>?_
 clear q K
 try simp only[sx]
 repeat((first|refine Zbd rfl rfl ⟨_,fun w' g=>by(skip;go_simp;exact rfl),?_⟩|refine Zbi (by assumption) rfl rfl ?_);simp only[sx])
 refine Zeq ?_;go_wp2;refine bodyPost_ret (Zag rfl rfl (by kernel_rfl) (by kernel_rfl) m rfl) rfl ?_;have I:=Zab (B:=w.heap.size) j (by omega) (Zae (Zae b (Zal _ r)) y) (fun k e=>by injection e;omega);exact⟨_,rfl,I,(f.grown y (by omega)).base (by omega)⟩
theorem Zzk(a:Int)(v:Value)(l:List UInt8)(w:World)(j:Zan w.cell? v l)(g:Zbc l a=true) :
 Calls prog 160 #[.agg #[v,.int .i64 a]] w fun e w'=>∃d,e=.returned (.tuple #[.agg #[d,.int .i64 l.length],.int .i64 0])∧Below w.heap.size w w'∧OwnB w' w.heap.size d l:=by
 have q:l.length≤400000:=by simp[Zbc]at g;omega
 go_enter func160,ntmps160;go_wp2_with fail
 refine(Zin _ _ _ _ (j.mono (Zaa (Ze7 _ _ _))) g).mono ?_;rintro e w1 ⟨d,rfl,f,i⟩;obtain⟨A,c,rfl⟩:=i.form;have k:OwnB w1 (w.heap.size+2) _ l:=i.base (by simp);obtain⟨o,n⟩:=bcell f;have m:w.heap.size+1<w1.heap.size:=by have:=f.size;simp at this;omega
 have p:Below w.heap.size w w1:=(Ze7 _ _ _).trans (f.mono (by simp;omega));go_wp2;refine bodyPost_ret (v:=.tuple #[.agg #[.slice A l.length c,.int .i64 l.length],.int .i64 0]) (by simp[results,Tryz.results160,go_sem,o,n,m]) rfl ⟨_,rfl,?_,?_⟩
 ·repeat(first
   |assumption
   |exact Zm _ _
   |refine Below.drew ?_
   |(refine Below.alloc ?_ ?sa _;(case sa=>first|omega|(simp;done)|(simp;omega)))
   |(refine Below.setCell ?_ ?sa _;(case sa=>first|(dsimp only;omega)|(simp;done)|(simp;omega))))
 ·refine OwnVec.base (b:=w.heap.size+2) ?_ (by omega)
  repeat(first
   |assumption
   |refine OwnVec.drew ?_
   |refine OwnVec.alloc ?_ _
   |(refine OwnVec.setCell ?_ ?sa _;(case sa=>first|(dsimp only;omega)|(simp;done)|(simp;omega))))
theorem RVec.cut{n:Nat}(o:RVec enc bs h (.slice A n c) xs){m:Nat}(b:k≤xs.length)(g:k≤m)(a:m≤c):RVec enc bs h (.slice A k m) (xs.take k):=by
 obtain⟨A',c',e,p,l,i,d,f⟩:=o.take b;injection e with e1 e2 e3;subst e1 e3;exact⟨A,m,by rw[←e2],by omega,Zg a l,i,fun j=>by have:=d j;omega,f⟩
def Zdw(a keep:Int)(n:Nat):Nat:=(if keep<n-a then a+keep else n).toNat
theorem Zye(a keep:Nat)(v:Value)(l:List UInt8)(w:World)(y:Zan w.cell? v l)(s:Zbc l a=true)(z:(keep:Int)≤9223372036854775807) :
 Calls prog 162 #[.agg #[v,.int .i64 a],.int .i64 keep] w fun e w'=>∃d,e=.returned (.tuple #[.agg #[d,.int .i64 (Zdw a keep l.length)],.int .i64 0])∧Below w.heap.size w w'∧Zan w'.cell? d (l.take (Zdw a keep l.length)):=by
 have q:a≤l.length∧l.length≤400000:=by simp[Zbc]at s;omega
 obtain⟨D,F⟩:=q;have E:=Zb z;have j:∀m:Nat,Zdw a keep l.length=m→Hid (Zdw a keep l.length=m):=fun _ h=>h
 clear z
 by_cases B:(keep:Int)≤l.length-a
 ·have i:=j (a+keep) (by simp only[Zdw];split<;>omega)
  have C:a+keep≤l.length:=by omega
  go_enter func162,ntmps162;go_wp2_with fail
  refine(Zin _ _ _ _ (y.mono (Zaa (Ze7 _ _ _))) s).mono ?_;rintro e w1 ⟨d,rfl,f,g⟩;have r1:=g.reads (bs:=1) (by omega);obtain⟨A,c,rfl,o,t,_⟩:=id r1;obtain⟨p,x⟩:=bcell f;have k:w.heap.size+1<w1.heap.size:=by have:=f.size;simp at this;omega
  have r:Below w.heap.size w w1:=(Ze7 _ _ _).trans (f.mono (by simp;omega));clear j;have u:=Zb g;clear r1 g;have q0:(0:Int)≤(a:Int)+(keep:Int):=by omega
  have q1:(a:Int)+(keep:Int)≤(c:Int):=by omega
  have qn:((a:Int)+(keep:Int)).toNat=a+keep:=by omega
  go_wp2;have g:OwnB w1 (w.heap.size+2) (.slice A l.length c) l:=u.out.base (by simp);refine bodyPost_ret (v:=.tuple #[.agg #[.slice A (a+keep) (a+keep),.int .i64 ((a:Int)+(keep:Int))],.int .i64 0]) (by simp[results,Tryz.results162,go_sem,p,x,k]) rfl ⟨_,by rw[i.out];try rfl,?_,?_⟩
  ·repeat(first
    |assumption
    |exact Zm _ _
    |refine Below.drew ?_
    |(refine Below.alloc ?_ ?sa _;(case sa=>first|omega|(simp;done)|(simp;omega)))
    |(refine Below.setCell ?_ ?sa _;(case sa=>first|(dsimp only;omega)|(simp;done)|(simp;omega))))
  ·rw[i.out];refine RVec.cut (n:=l.length) (c:=c) (xs:=l) ?_ (by omega) (Za _) (by omega);refine OwnVec.reads (base:=w.heap.size) (e:=5) ?_ (by omega);refine OwnVec.base (b:=w.heap.size+2) ?_ (by omega)
   repeat(first
    |assumption
    |refine OwnVec.drew ?_
    |refine OwnVec.alloc ?_ _
    |(refine OwnVec.setCell ?_ ?sa _;(case sa=>first|(dsimp only;omega)|(simp;done)|(simp;omega))))
 ·have i:=j l.length (by simp only[Zdw];split<;>omega)
  go_enter func162,ntmps162;go_wp2_with fail
  refine(Zin _ _ _ _ (y.mono (Zaa (Ze7 _ _ _))) s).mono ?_;rintro e w1 ⟨d,rfl,f,g⟩;have r1:=g.reads (bs:=1) (by omega);obtain⟨A,c,rfl,o,t,_⟩:=id r1;obtain⟨p,x⟩:=bcell f;have k:w.heap.size+1<w1.heap.size:=by have:=f.size;simp at this;omega
  have r:Below w.heap.size w w1:=(Ze7 _ _ _).trans (f.mono (by simp;omega));clear j;have u:=Zb g;clear r1 g;have q2:(a:Int)+((l.length:Int)-(a:Int))=(l.length:Int):=by omega
  have q3:((l.length:Int)-(a:Int))<(keep:Int):=by omega
  go_wp2;have g:OwnB w1 (w.heap.size+2) (.slice A l.length c) l:=u.out.base (by simp);refine bodyPost_ret (v:=.tuple #[.agg #[.slice A l.length l.length,.int .i64 ((l.length:Int))],.int .i64 0]) (by simp[results,Tryz.results162,go_sem,p,x,k]) rfl ⟨_,by rw[i.out];try rfl,?_,?_⟩
  ·repeat(first
    |assumption
    |exact Zm _ _
    |refine Below.drew ?_
    |(refine Below.alloc ?_ ?sa _;(case sa=>first|omega|(simp;done)|(simp;omega)))
    |(refine Below.setCell ?_ ?sa _;(case sa=>first|(dsimp only;omega)|(simp;done)|(simp;omega))))
  ·rw[i.out];refine RVec.cut (n:=l.length) (c:=c) (xs:=l) ?_ (by omega) (Za _) (by omega);refine OwnVec.reads (base:=w.heap.size) (e:=5) ?_ (by omega);refine OwnVec.base (b:=w.heap.size+2) ?_ (by omega)
   repeat(first
    |assumption
    |refine OwnVec.drew ?_
    |refine OwnVec.alloc ?_ _
    |(refine OwnVec.setCell ?_ ?sa _;(case sa=>first|(dsimp only;omega)|(simp;done)|(simp;omega))))
def Zcy(l:List ByteArray)(s:ByteArray):Bool:=l.any fun t=>t.toList==s.toList
theorem Zoz(v:Value)(l:List ByteArray)(s:ByteArray)(w:World)(p:RTexts w.cell? v l) :
 Calls prog 177 #[v,.string s] w fun e w'=>(∃n:Int,e=.returned (.int .i64 n)∧(decide (0≤n)=Zcy l s))∧w=w':=by
 obtain⟨A,c,rfl,o,f⟩:=p.form;have m:=Zb f;clear f p;go_enter func177,ntmps177;go_wp2
 go_loop [8] (fun i=>∃k:Nat,k≤l.length∧i=.int .i64 k∧Hid (∀j (b:j<l.length),j<k→(l[j].toList==s.toList)=false)) (fun i=>l.length-(intOf i).toNat)
 case atStart=>exact⟨0,Zf _,rfl,fun j _ b=>by omega⟩
 case round =>
  obtain⟨k,t,rfl,d⟩:=hrel
  by_cases a:k<l.length
  ·obtain⟨b0,o0,rfl,g⟩:=m.out k a;cases he:(s.toList==l[k].toList)
   ·go_wp2;have r:=Zb he;go_round
    case rel=>exact⟨k+1,by omega,by go_num,fun j b q=>by
     by_cases e:j=k
     ·subst e;have:=r.out;rw[beq_eq_false_iff_ne]at this ⊢;exact fun h=>this h.symm
     ·exact d.out j b (by omega)⟩
    case measure=>simp[intOf];omega
   ·go_wp2;go_ret;exact⟨⟨k,rfl,by rw[Zcy,Zg1 a (by rw[beq_iff_eq]at he ⊢;exact he.symm)];simp⟩,rfl⟩
  ·go_wp2;go_ret;exact⟨⟨-1,rfl,by rw[Zcy,Zgh fun j b=>d.out j b (by omega)];rfl⟩,rfl⟩
theorem Zeh(v:Value)(l:List ByteArray)(s:ByteArray)(w:World)(a:RTexts w.cell? v l) :
 Calls prog 130 #[v,.string s] w fun e w'=>e=.returned (.bool (Zcy l s))∧w=w':=by
 go_enter func130,ntmps130;go_wp2_with fail
 refine(Zoz _ _ _ _ a).mono ?_;rintro e w' ⟨⟨n,rfl,hn⟩,rfl⟩;go_wp2;go_ret;exact⟨rfl,rfl⟩
theorem tx_any(s:ByteArray)(w:World)(d:s.size≤140737488355328):Calls prog 129 #[.string s] w fun e w'=>e=.returned (.bool (txOk s))∧w=w':=by
 by_cases a:1≤s.size<;>by_cases c:s.size≤20
 all_goals
  have b:Hid (txOk s=decide (1≤s.size∧s.size≤20)):=rfl;go_enter func129,ntmps129;go_wp2
  all_goals (go_ret;exact⟨Zao (by rw[b.out];simp[a,c];try omega),rfl⟩)
def Zsu(l:List ByteArray)(i:Nat):Bool:=match l[i]? with|some t=> !txOk t||Zcy (l.take i) t|none=>false
def Zdt(next:Int)(l:List ByteArray):Int:=if !inB next 1 1048577||decide (40<l.length)then 12 else if (List.range l.length).any (Zsu l)then 12 else 0
theorem badTx_at{l:List ByteArray}(a:k<l.length):Zsu l k=(!txOk l[k]||Zcy (l.take k) l[k]):=by
 unfold Zsu;rw[Zp a]
theorem Zga(next:Int)(v:Value)(l:List ByteArray)(w:World)(t:RTexts w.cell? v l)(C:∀s∈l,s.size≤140737488355328) :
 Calls prog 128 #[.agg #[.int .i64 next,v]] w fun e w'=>e=.returned (.int .i64 (Zdt next l))∧Below w.heap.size w w':=by
 obtain⟨A,c,rfl,z,q⟩:=t.form;have B:l.length≤c:=by obtain⟨_,_,e,h,_⟩:=t;injection e with _ _ e3;omega
 have u:=Zb q;have K:=Zb C;have F:=Zb t;clear q t C;have f:∀x,Zdt next l=x→Hid (Zdt next l=x):=fun x h=>h
 by_cases L:next<1
 ·have r:=f 12 (by
   have:inB next 1 1048577=false:=by(simp[inB];omega)
   simp[Zdt,this])
  clear f;go_enter func128,ntmps128;go_wp2;go_ret;exact⟨Zak r.out.symm,(Zm _ _).alloc (Za _) _⟩
 by_cases I:1048577<next
 ·have r:=f 12 (by
   have:inB next 1 1048577=false:=by(simp[inB];omega)
   simp[Zdt,this])
  clear f;go_enter func128,ntmps128;go_wp2;go_ret;exact⟨Zak r.out.symm,(Zm _ _).alloc (Za _) _⟩
 have D:inB next 1 1048577=true:=by simp[inB];omega
 by_cases E:40<l.length
 ·have r:=f 12 (by simp[Zdt,D,E]);clear f;go_enter func128,ntmps128;go_wp2;go_ret;exact⟨Zak r.out.symm,(Zm _ _).alloc (Za _) _⟩
 have g:Hid (Zdt next l=if (List.range l.length).any (Zsu l)then 12 else 0):=by
  show _=_;simp only[Zdt,D];rw[if_neg (by simpa using E)]
 clear f;go_enter func128,ntmps128;go_wp2
 go_loop [22] (fun i=>∃k:Nat,k≤l.length∧i=.int .i64 k∧Hid (∀j,j<k→Zsu l j=false)) (fun i=>l.length-(intOf i).toNat)
 case atStart=>exact⟨0,Zf _,rfl,fun j G=>by omega⟩
 case round =>
  obtain⟨k,M,rfl,p⟩:=hrel
  by_cases d:k<l.length
  ·obtain⟨b0,o0,rfl,b⟩:=u.out k d;have H:=Zhf b;have m:=K.out l[k] (List.getElem_mem d);have n:=fun o=>Zb ((F.out.take (k:=k) (by omega)).mono (Zaa ((Zm _ _).alloc (Za _) o)))
   clear b;have J:k≤c:=by omega
   have y:(k:Int)≤(c:Int):=by omega
   have a:=Zb (badTx_at d);cases ht:txOk l[k]
   ·rw[ht]at a;go_wp2_with (go_at_call 129;refine(tx_any _ _ m).mono ?_;rintro e w' ⟨rfl,rfl⟩);go_ret;exact⟨Zak (by rw[g.out,Zb8 d a.out];rfl),(Zm _ _).alloc (Za _) _⟩
   ·cases ht2:Zcy (l.take k) l[k]
    all_goals
     rw[ht,ht2]at a;go_wp2_with (first|(go_at_call 129;refine(tx_any _ _ m).mono ?_;rintro e w' ⟨rfl,rfl⟩)|(go_at_call 130;refine(Zeh _ (l.take k) _ _ (n _).out).mono ?_;rintro e w' ⟨rfl,rfl⟩))
    ·go_round
     case rel=>exact⟨k+1,by omega,by go_num,upto_succ p.out a.out⟩
     case measure=>simp[intOf];omega
    ·go_ret;exact⟨Zak (by rw[g.out,Zb8 d a.out];rfl),(Zm _ _).alloc (Za _) _⟩
  ·go_wp2;go_ret;exact⟨Zak (by rw[g.out,Zds (fun j G=>p.out j (by omega))];rfl),(Zm _ _).alloc (Za _) _⟩
theorem Zbv(v:Value)(xs:List ByteArray)(w:World)(d:RTexts w.cell? v xs) :
 Calls prog 62 #[v] w fun e w'=>∃v',e=.returned v'∧Below w.heap.size w w'∧OwnS w' w.heap.size v' xs:=by
 have i:xs.length*16≤140737488355328:=by obtain⟨A,c,_,_,_,h,_⟩:=d;exact h
 have b:=Zb i;obtain⟨A,c,rfl,_⟩:=id d;have e1:=@Lib.run_eql_slice_nil prog;clear i;cases A with
 |none =>
  obtain⟨rfl,k,rfl⟩:=d.isNil;go_enter func62,ntmps62;go_wp2;go_ret;exact⟨_,rfl,Zm _ _,OwnVec.nil _ _ _ _⟩
 |some a =>
  have g:=d.mono (Zaa ((Zm _ _).alloc (Za _) (.cells #[] 9)));clear d;go_enter func62,ntmps62;go_wp2_with (at_builtin;refine Za6 (n:=140737488355328) Zl0 Zir _ _ rfl rfl rfl (OwnVec.made _ _ _ _ (Za _)) ((Zm _ _).alloc (Za _) _) (Zar _ (Za _)) rfl g (Za _) (by simpa using b.out) (by have:=b.out;simp;omega) ?_);intro v' w1 j f _;go_wp2;go_ret;exact⟨v',rfl,f,by simpa using j⟩
def RBat(h:View)(cs:List Value)(x:Bat):Prop:=∃v,cs=[.int .i64 x.author,.int .i64 x.number,v]∧RTexts h v x.txs∧∀s∈x.txs,s.size≤140737488355328
theorem RBat.mono:Mono RBat:=fun h d cs x ⟨v,e,b,c⟩ a=>⟨v,e,b.mono a,c⟩
abbrev RBats:=RSl 3 RBat 40
theorem Zso:Elem prog 40 82 3 40:=Zo4 (z:=.agg #[.int .i64 0,.int .i64 0,.slice none 0 0]) underlying40 (by kernel_rfl) rfl (by decide)
theorem RBats.at{h:View}{A:Option Addr}{n c:Nat}{xs:List Bat}(p:RBats h (.slice A n c) xs):n=xs.length∧n≤c∧n*40≤140737488355328∧∀k (d:k<xs.length),∃b o v,A=some ⟨b,o,none⟩∧h ⟨b,o+k*3,none⟩=some (.int .i64 xs[k].author)∧h ⟨b,o+k*3+1,none⟩=some (.int .i64 xs[k].number)∧h ⟨b,o+k*3+2,none⟩=some v∧RTexts h v xs[k].txs∧∀s∈xs[k].txs,s.size≤140737488355328:=by
 obtain⟨A',c',e,g,_,m,_,i⟩:=p;injection e with e1 e2 e3;subst e1 e2 e3;refine⟨rfl,g,m,fun k d=>?_⟩;obtain⟨b,o,ea,l⟩:=i (by omega);obtain⟨cs,q,a,v,rfl,f,j⟩:=l k d;have c0:=a 0 (by omega);have c1:=a 1 (by omega);have c2:=a 2 (by omega);simp at c0 c1 c2;exact⟨b,o,v,ea,c0,c1,c2,f,j⟩
theorem Zbm{b':Nat}(c:b'≤b):VLe (View.from h b) (View.from h b'):=fun a v e=>by
 unfold View.from at e⊢
 split at e
 ·cases e
 ·rw[if_neg (by omega)]
  exact e
theorem Zjr(d:w.grownBy w' (some g))(f:g<b):VLe (View.from w.cell? b) (View.from w'.cell? b):=fun a v e=>by
 unfold View.from at e⊢
 split at e
 ·cases e
 ·rename_i c
  rw[if_neg c]
  exact d.cell e (by intro h;injection h;omega)
theorem Zip{w2 w9 w10:World}{b':Nat}{q:Option Nat}(j:Below w2.heap.size w2 w9)(i:w9.grownBy w10 (some c))(m:c<b)(g:∀k,q=some k→w2.heap.size≤k)(d:b'≤b):VLe (View.from w2.cell? b) (View.from (View.but w10.cell? q) b'):=fun a v e=>by
 unfold View.from at e⊢
 split at e
 ·cases e
 ·rename_i l
  have f:=World.block_lt_of_cell? w2 a e
  rw[if_neg (by omega)]
  unfold View.but
  rw[if_neg (fun h=>by have:=g a.block h.symm;omega)]
  exact i.cell (Zaa j _ _ e) (by intro h;injection h;omega)
theorem OwnSl.lower{b':Nat}(h:OwnSl sz (RFrom b R) e w b v xs)(c:Mono R)(a:b'≤b):OwnSl sz (RFrom b' R) e w b' v xs:=by
 obtain⟨css,d,g,f⟩:=(h.base a).own;refine⟨css,d,g,fun i hi=>?_⟩;obtain⟨cs,q1,q2,q3⟩:=f i hi;exact⟨cs,q1,q2,c _ _ _ _ q3 (Zbm a)⟩
end Go.Proofs.YtbcpbnfojfiekaaGreatDoor
