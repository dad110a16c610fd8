/- A part of what the last text stands on. -/
import Derived.Deep.DeepCutAuto
import Derived.Deep.CutBlock
import Derived.Test.YtbcpbnfojfiekaaGreatDoorK02
import Derived.Test.YtbcpbnfojfiekaaGreatDoorK03
namespace Go.Proofs.YtbcpbnfojfiekaaGreatDoor
open Go.ChangeShapes Go.WideShapes Go.ChangeAt Go.RowKit Go.Proofs.Tryz Qa Qb Qc
set_option linter.all false
set_option maxHeartbeats 20000000
set_option maxRecDepth 100000
variable{P:Program}{w:World}{a:Act}{o:Oper}{ops:Array Oper}{rest:List Oper}{Q:Exit→Act→World→Prop}{v:Value}{cs:Array Value}{A:Option Addr}{h:View}{t te:TypeId}{k i j g off c:Nat}{x y:Operand}{α:Type}
theorem RSlot.mono:Mono RSlot:=fun h b cs x ⟨d,e,hd⟩ a=>⟨d,e,hd.mono a⟩
abbrev RSlots:=RSl 3 RSlot 40
theorem Zku:Elem prog 41 85 3 40:=Zo4 (z:=.agg #[.int .i64 0,.int .i64 0,.slice none 0 0]) underlying41 (by kernel_rfl) rfl (by decide)
theorem RSlots.at{n:Nat}{xs:List Slot}(m:RSlots h (.slice A n c) xs):n=xs.length∧n≤c∧n*40≤140737488355328∧∀k (f:k<xs.length),∃b o d,A=some ⟨b,o,none⟩∧h ⟨b,o+k*3,none⟩=some (.int .i64 xs[k].author)∧h ⟨b,o+k*3+1,none⟩=some (.int .i64 xs[k].round)∧h ⟨b,o+k*3+2,none⟩=some d∧Zan h d xs[k].digest:=by
 obtain⟨A',c',e,g,_,l,_,i⟩:=m;injection e with e1 e2 e3;subst e1 e2 e3;refine⟨rfl,g,l,fun k f=>?_⟩;obtain⟨b,o,ea,j⟩:=i (by omega);obtain⟨cs,p,a,d,rfl,hd⟩:=j k f;exact⟨b,o,d,ea,a 0 (by omega),a 1 (by omega),a 2 (by omega),hd⟩
structure Sign where
 node:Int
 slot:Slot
def RSign(h:View)(cs:List Value)(s:Sign):Prop:=∃d,cs=[.int .i64 s.node,.int .i64 s.slot.author,.int .i64 s.slot.round,d]∧Zan h d s.slot.digest
theorem RSign.mono:Mono RSign:=fun h b cs x ⟨d,e,hd⟩ a=>⟨d,e,hd.mono a⟩
abbrev RSigns:=RSl 4 RSign 48
theorem Zo3:Elem prog 32 121 4 48:=Zo4 (z:=.agg #[.int .i64 0,.int .i64 0,.int .i64 0,.slice none 0 0]) underlying32 (by kernel_rfl) rfl (by decide)
theorem RSigns.at{n:Nat}{xs:List Sign}(m:RSigns h (.slice A n c) xs):n=xs.length∧n≤c∧n*48≤140737488355328∧∀k (f:k<xs.length),∃b o d,A=some ⟨b,o,none⟩∧h ⟨b,o+k*4,none⟩=some (.int .i64 xs[k].node)∧h ⟨b,o+k*4+1,none⟩=some (.int .i64 xs[k].slot.author)∧h ⟨b,o+k*4+2,none⟩=some (.int .i64 xs[k].slot.round)∧h ⟨b,o+k*4+3,none⟩=some d∧Zan h d xs[k].slot.digest:=by
 obtain⟨A',c',e,g,_,l,_,i⟩:=m;injection e with e1 e2 e3;subst e1 e2 e3;refine⟨rfl,g,l,fun k f=>?_⟩;obtain⟨b,o,ea,j⟩:=i (by omega);obtain⟨cs,p,a,d,rfl,hd⟩:=j k f;exact⟨b,o,d,ea,a 0 (by omega),a 1 (by omega),a 2 (by omega),a 3 (by omega),hd⟩
def Zle(no au ro:Int)(n:Nat):Int:=if inB no 0 3 then Zgm au ro n else 2
theorem Zfb(no au ro:Int)(s:Option Addr)(l c:Nat)(w:World):Calls prog 189 #[.agg #[.int .i64 no,.int .i64 au,.int .i64 ro,.slice s l c]] w fun e w'=>e=.returned (.int .i64 (Zle no au ro l))∧Below w.heap.size w w':=by
 have a:Hid (Zle no au ro l=if inB no 0 3 then Zgm au ro l else 2):=rfl
 by_cases d:no<0
 ·go_enter func189,ntmps189;go_wp2
  go_ret;exact⟨Zak (by rw[a.out,if_neg (by simp[inB];omega)]),Zac _ _⟩
 by_cases f:4≤no
 ·go_enter func189,ntmps189;go_wp2
  go_ret;exact⟨Zak (by rw[a.out,if_neg (by simp[inB];omega)]),Zac _ _⟩
 ·go_enter func189,ntmps189;go_wp2_with fail
  refine(Zem _ _ _ _ _ _).mono ?_;rintro e w1 ⟨rfl,b⟩;go_wp2;go_ret;exact⟨Zak (by rw[a.out,if_pos (by simp[inB];omega)]),(Zac _ _).trans (b.mono (by simp))⟩
def Zfi(x s:Sign):Bool:=x.node==s.node&&(x.slot.author==s.slot.author&&(x.slot.round==s.slot.round&&x.slot.digest==s.slot.digest))
def Zce(l:List Sign)(s:Sign):Bool:=l.any fun x=>Zfi x s
theorem eqSign_1{x s:Sign}(h:(x.node==s.node)=false):Zfi x s=false:=by simp[Zfi,h]
theorem eqSign_2{x s:Sign}(h:(x.slot.author==s.slot.author)=false):Zfi x s=false:=by simp[Zfi,h]
theorem eqSign_3{x s:Sign}(h:(x.slot.round==s.slot.round)=false):Zfi x s=false:=by simp[Zfi,h]
theorem eqSign_4{x s:Sign}(a:(x.node==s.node)=true)(b:(x.slot.author==s.slot.author)=true)(c:(x.slot.round==s.slot.round)=true):Zfi x s=(x.slot.digest==s.slot.digest):=by simp[Zfi,a,b,c]
theorem hasFn_any(x s:Sign)(d sd:Value)(b1:Nat)(w:World)(b:Blk w b1 121 #[.int .i64 s.node,.int .i64 s.slot.author,.int .i64 s.slot.round,sd])(hd:Zan w.cell? d x.slot.digest)(f:Zan w.cell? sd s.slot.digest) :
 Calls prog 191 #[.agg #[.int .i64 x.node,.int .i64 x.slot.author,.int .i64 x.slot.round,d],.pointer (some ⟨b1,0,none⟩)] w fun e w'=>e=.returned (.bool (Zfi x s))∧Below w.heap.size w w':=by
 have a:=Zac w (.cells #[.int .i64 x.node,.int .i64 x.slot.author,.int .i64 x.slot.round,d] 121);have g:=b.kept a;have g0:=g.cell 0;have g1:=g.cell 1;have g2:=g.cell 2;have g3:=g.cell 3;simp at g0 g1 g2 g3;have j:=Zb (hd.mono (Zaa a));have i:=Zb (f.mono (Zaa a));clear b hd f g;cases t1:(x.node==s.node)
 ·have c:=Zb (eqSign_1 t1);go_enter func191,ntmps191;go_wp2;go_ret;exact⟨Zao c.out.symm,a⟩
 cases t2:(x.slot.author==s.slot.author)
 ·have c:=Zb (eqSign_2 t2);go_enter func191,ntmps191;go_wp2;go_ret;exact⟨Zao c.out.symm,a⟩
 cases t3:(x.slot.round==s.slot.round)
 ·have c:=Zb (eqSign_3 t3);go_enter func191,ntmps191;go_wp2;go_ret;exact⟨Zao c.out.symm,a⟩
 have c:=Zb (eqSign_4 t1 t2 t3);go_enter func191,ntmps191;go_wp2_with fail;refine(Zb7 _ _ x.slot.digest s.slot.digest _ j.out i.out).mono ?_;rintro e w' ⟨rfl,rfl⟩;go_wp2;go_ret;exact⟨Zao c.out.symm,a⟩
theorem Zo1(vl:Value)(l:List Sign)(s:Sign)(sd:Value)(b1:Nat)(w:World)(t:RSigns w.cell? vl l)(p:Blk w b1 121 #[.int .i64 s.node,.int .i64 s.slot.author,.int .i64 s.slot.round,sd])(o:Zan w.cell? sd s.slot.digest) :
 Calls prog 215 #[vl,.func (.func 191) #[] #[.pointer (some ⟨b1,0,none⟩)]] w fun e w'=>∃i:Int,e=.returned (.int .i64 i)∧decide (0≤i)=Zce l s∧Below w.heap.size w w':=by
 obtain⟨A,c,rfl,_⟩:=id t;obtain⟨_,y,z,n⟩:=t.at;have v:=Zb n;have q:=Zb o;clear t n o;go_enter func215,ntmps215;go_wp2
 go_loopw [8] (fun i wr=>∃k:Nat,k≤l.length∧i=.int .i64 k∧Hid (∀j (m:j<l.length),j<k→Zfi l[j] s=false)∧Below w.heap.size w wr) (fun i _=>l.length-(intOf i).toNat)
 case atStart=>exact⟨0,Zf _,rfl,fun j _ m=>by omega,Zm _ _⟩
 case round =>
  obtain⟨k,B,rfl,g,a⟩:=hrel
  by_cases f:k<l.length
  ·obtain⟨b0,o0,d,rfl,q0,q1,q2,q3,hd⟩:=v.out k f;have c0:=Zaa a _ _ q0;have c1:=Zaa a _ _ q1;have c2:=Zaa a _ _ q2;have c3:=Zaa a _ _ q3;have h:=Zb (hd.mono (Zaa a));clear hd q0 q1 q2 q3;go_wp2_with fail;refine(hasFn_any l[k] s d sd b1 _ (p.kept a) h.out (q.out.mono (Zaa a))).mono ?_;rintro e w1 ⟨rfl,r⟩;have b:=a.trans (r.mono a.size);cases e1:Zfi l[k] s
   ·have u:=Zb e1;clear e1;go_wp2;go_roundw
    case rel=>exact⟨k+1,by omega,by go_num,fun j m x=>by
     by_cases e:j=k
     ·subst e;exact u.out
     ·exact g.out j m (by omega),b⟩
    case measure=>simp[intOf];omega
   ·have u:=Zb e1;clear e1;go_wp2;go_ret;exact⟨(k:Int),rfl,by rw[show Zce l s=true from Zg1 f u.out];simp,b⟩
  ·go_wp2;go_ret;exact⟨-1,rfl,by rw[show Zce l s=false from Zgh fun j m=>g.out j m (by omega)];rfl,a⟩
theorem Zki(vl:Value)(l:List Sign)(s:Sign)(sd:Value)(b1:Nat)(w:World)(g:RSigns w.cell? vl l)(a:Blk w b1 121 #[.int .i64 s.node,.int .i64 s.slot.author,.int .i64 s.slot.round,sd])(d:Zan w.cell? sd s.slot.digest) :
 Calls prog 190 #[vl,.func (.func 191) #[] #[.pointer (some ⟨b1,0,none⟩)]] w fun e w'=>e=.returned (.bool (Zce l s))∧Below w.heap.size w w':=by
 go_enter func190,ntmps190;go_wp2_with fail
 refine(Zo1 vl l s sd b1 _ g a d).mono ?_;rintro e w1 ⟨i,rfl,hi,f⟩
 by_cases b:0≤i
 ·have c:Hid (Zce l s=true):=hi.symm.trans (decide_eq_true b);clear hi;go_wp2;go_ret;exact⟨Zao c.out.symm,f⟩
 ·have c:Hid (Zce l s=false):=hi.symm.trans (decide_eq_false b);clear hi;go_wp2;go_ret;exact⟨Zao (by rw[c.out];simp[b]),f⟩
theorem Zf7(vl:Value)(l:List Sign)(s:Sign)(sd:Value)(w:World)(d:RSigns w.cell? vl l)(c:Zan w.cell? sd s.slot.digest) :
 Calls prog 147 #[vl,.agg #[.int .i64 s.node,.int .i64 s.slot.author,.int .i64 s.slot.round,sd]] w fun e w'=>e=.returned (.bool (Zce l s))∧Below w.heap.size w w':=by
 go_enter func147,ntmps147;go_wp2_with fail
 refine Za9 _ _ _ (fun W=>Calls prog _ _ W _) (fun W b f a=>?_);refine(Zki _ l s sd _ _ (d.mono RSign.mono (Zaa a)) b (c.mono (Zaa a))).mono ?_;rintro e w1 ⟨rfl,g⟩;go_wp2;go_ret;exact⟨rfl,a.trans (g.mono (by omega))⟩
def Zh6(l:List Sign)(i:Nat):Bool:=match l[i]? with|some s=>Zle s.node s.slot.author s.slot.round s.slot.digest.length != 0||Zce (l.take i) s|none=>false
def Zei(l:List Sign):Int:=if (List.range l.length).any (Zh6 l)then 12 else 0
theorem Zvs{l:List Sign}(a:k<l.length):Zh6 l k=(Zle l[k].node l[k].slot.author l[k].slot.round l[k].slot.digest.length != 0||Zce (l.take k) l[k]):=by
 unfold Zh6;rw[Zp a]
theorem Zf8(v:Value)(l:List Sign)(w:World)(D:RSigns w.cell? v l) :
 Calls prog 145 #[v] w fun e w'=>e=.returned (.int .i64 (Zei l))∧Below w.heap.size w w':=by
 obtain⟨A,c,rfl,_⟩:=id D;obtain⟨_,J,I,C⟩:=D.at;have F:=Zb C;have L:=Zb D;clear C D;have s:Hid (Zei l=if (List.range l.length).any (Zh6 l)then 12 else 0):=rfl;go_enter func145,ntmps145;go_wp2
 go_loopw [7] (fun i wr=>∃k:Nat,k≤l.length∧i=.int .i64 k∧Hid (∀j,j<k→Zh6 l j=false)∧Below w.heap.size w wr) (fun i _=>l.length-(intOf i).toNat)
 case atStart=>exact⟨0,Zf _,rfl,fun j M=>by omega,Zm _ _⟩
 case round =>
  obtain⟨k,P,rfl,z,b⟩:=hrel
  by_cases p:k<l.length
  ·obtain⟨b0,o0,d,rfl,e0,e1,e2,e3,hd⟩:=F.out k p;obtain⟨dA,dc,rfl,_⟩:=id hd;have c0:=Zaa b _ _ e0;have c1:=Zaa b _ _ e1;have c2:=Zaa b _ _ e2;have c3:=Zaa b _ _ e3;have N:=Zb (hd.mono (Zaa b));have y:=Zb ((L.out.take (k:=k) (by omega)).mono RSign.mono (Zaa b));have g:=Zb (Zvs p);have O:k≤c:=by omega
   have H:(k:Int)≤(c:Int):=by omega
   clear e0 e1 e2 e3 hd;cases ht:(Zle l[k].node l[k].slot.author l[k].slot.round l[k].slot.digest.length != 0)
   rotate_left
   ·rw[ht,Bool.true_or]at g;go_wp2;refine Za9 _ _ _ (fun W=>(Code.region _ _ _).wp _ _ _ W) (fun W q E n=>?_);have f:Below w.heap.size w W:=b.trans (n.mono b.size)
    refine Zch (fun w'=>Below W.heap.size W w') [(0,true),(1,false),(2,true),(3,true),(4,true),(5,true),(6,true),(7,true),(8,false),(9,true)] (by kernel_rfl) (by kernel_rfl) (fun _ _ d _ _ h=>by cases d<;>exact h) rfl (by kernel_rfl) ?_ ?_
    ·exact Zad _
    intro W1 a
    repeat((first|refine Zbd rfl rfl ⟨_,fun w' a=>by(have m:=q.kept a;have t:=m.cell 0;have x:=m.cell 1;have u:=m.cell 2;have B:=m.cell 3;simp at t x u B;go_simp;exact rfl),?_⟩|refine Zbi (by assumption) rfl rfl ?_);simp only[sx])
    refine Zd2 rfl rfl fun K r=>?_
    try simp only[sy]
    go_simp;refine(Zfb _ _ _ _ _ _ _).mono ?_;rintro e w1 ⟨rfl,o⟩;refine r.out _ _ (a.trans (o.mono a.size)) fun a=>?_
    clear r K
    try simp only[sx]
    repeat((first|refine Zbd rfl rfl ⟨_,fun w' a=>by(skip;go_simp;exact rfl),?_⟩|refine Zbi (by assumption) rfl rfl ?_);simp only[sx])
    refine Zeq ?_;go_wp2;go_ret;exact⟨Zak (by rw[s.out,Zb8 p g.out];rfl),f.trans (a.mono f.size)⟩
   ·rw[ht,Bool.false_or]at g;cases ht2:Zce (l.take k) l[k]
    all_goals
     rw[ht2]at g;go_wp2;refine Za9 _ _ _ (fun W=>(Code.region _ _ _).wp _ _ _ W) (fun W q E n=>?_);have f:Below w.heap.size w W:=b.trans (n.mono b.size)
     refine Zch (fun w'=>Below W.heap.size W w') [(0,true),(1,false),(2,true),(3,true),(4,true),(5,true),(6,true),(7,true),(8,false),(9,true)] (by kernel_rfl) (by kernel_rfl) (fun _ _ d _ _ h=>by cases d<;>exact h) rfl (by kernel_rfl) ?_ ?_
     ·exact Zad _
     intro W1 a
     repeat((first|refine Zbd rfl rfl ⟨_,fun w' a=>by(have m:=q.kept a;have t:=m.cell 0;have x:=m.cell 1;have u:=m.cell 2;have B:=m.cell 3;simp at t x u B;go_simp;exact rfl),?_⟩|refine Zbi (by assumption) rfl rfl ?_);simp only[sx])
     refine Zd2 rfl rfl fun K r=>?_
     try simp only[sy]
     go_simp;refine(Zfb _ _ _ _ _ _ _).mono ?_;rintro e w1 ⟨rfl,o⟩;refine r.out _ _ (a.trans (o.mono a.size)) fun a=>?_
     clear r K
     try simp only[sx]
     repeat((first|refine Zbd rfl rfl ⟨_,fun w' a=>by(have m:=q.kept a;have t:=m.cell 0;have x:=m.cell 1;have u:=m.cell 2;have B:=m.cell 3;simp at t x u B;go_simp;exact rfl),?_⟩|refine Zbi (by assumption) rfl rfl ?_);simp only[sx])
     refine Zd2 rfl rfl fun K r=>?_
     try simp only[sy]
     go_simp;refine(Zf7 _ (l.take k) l[k] _ _ (y.out.mono RSign.mono (Zaa (n.trans (a.mono (by omega))))) (N.out.mono (Zaa (n.trans (a.mono (by omega)))))).mono ?_;rintro e w2 ⟨rfl,G⟩;simp only[ht2];refine r.out _ _ (a.trans (G.mono a.size)) fun a=>?_
     clear r K
     try simp only[sx]
     repeat((first|refine Zbd rfl rfl ⟨_,fun w' a=>by(skip;go_simp;exact rfl),?_⟩|refine Zbi (by assumption) rfl rfl ?_);simp only[sx])
     refine Zeq ?_;go_wp2
    ·go_roundw
     case rel=>exact⟨k+1,by omega,by go_num,upto_succ z.out g.out,f.trans (a.mono f.size)⟩
     case measure=>simp[intOf];omega
    ·go_ret;exact⟨Zak (by rw[s.out,Zb8 p g.out];rfl),f.trans (a.mono f.size)⟩
  ·go_wp2;go_ret;exact⟨Zak (by rw[s.out,Zds (fun j M=>z.out j (by omega))];rfl),b⟩
theorem Zaj{n:Nat}(c:o.guard=none)(f:o.op=.store t x y)(d:a.eval x=.pointer (some ⟨g,off,none⟩))(i:a.eval y=v)(hi:(P.info? t).map (·.size)=some n)(hn:v.cells.size=n)(m:Blk w g te cs)(b:off+n≤cs.size)(e:(v.cells.toList.all fun u=>u.oneCell')=true)(h:∀w',Blk w' g te (cs.toList.take off++(v.cells.toList++cs.toList.drop (off+n))).toArray→w.grownBy w' (some g)→wpList P ops Q rest (a.put o.dst undef) w'):wpList P ops Q (o::rest) a w :=
 wpList_plain c fun _ j=>Zau f d i hi hn m b e fun w' l k=>j _ _ (h w' l k)
theorem Zlh(no au ro:Int)(d:Value)(ds:List UInt8)(w:World)(hd:Zan w.cell? d ds) :
 Calls prog 203 #[.agg #[.int .i64 no,.int .i64 au,.int .i64 ro,d]] w fun e w'=>∃d',e=.returned (.agg #[.int .i64 no,.int .i64 au,.int .i64 ro,d'])∧Below w.heap.size w w'∧OwnB w' w.heap.size d' ds:=by
 obtain⟨A0,c0,rfl,_⟩:=id hd;go_enter func203,ntmps203;go_wp2_with fail;refine Za8 _ _ _ _ _ (fun W=>Calls prog _ _ W _) (fun W i j s f=>?_);refine(Zcj _ ds _ (hd.mono (Zaa f))).mono ?_;rintro e w1 ⟨d',rfl,b,o1⟩;obtain⟨A1,c1,rfl⟩:=o1.form;have i:=i.kept b;have j:=j.kept b;have m:=f.trans (b.mono f.size);have t:=b.size;go_wp2_with (refine Zaj (n:=1) rfl rfl rfl rfl (by kernel_rfl) rfl i (by simp) rfl ?_);intro w2 a g;have a:Blk w2 w.heap.size 121 #[.int .i64 no,.int .i64 au,.int .i64 ro,.slice A1 ds.length c1]:=a;have p:=j.grown g (by simp);have o2:=o1.grown g (by omega);have c:=Zab m (by omega) g (by intro k e;injection e;omega);have g0:=a.cell 0;have g1:=a.cell 1;have g2:=a.cell 2;have g3:=a.cell 3;simp at g0 g1 g2 g3;go_wp2_with (refine Zj 4 p ?_);intro w3 r l;have o3:=o2.grown l (by omega);have q:=c.size;have o:=Zab c q l (by intro k e;injection e;omega);go_wp2;refine bodyPost_ret (Zay rfl rfl (by kernel_rfl) (by kernel_rfl) r rfl) rfl ?_;exact⟨_,rfl,o,o3.base (by omega)⟩
def addE(l:List Sign)(s:Sign):Int:=if Zei l≠0 then Zei l else Zle s.node s.slot.author s.slot.round s.slot.digest.length
def addL(l:List Sign)(s:Sign):List Sign:=if addE l s≠0 then []else if Zce l s then l else l++[s]
theorem RSl.nil(sz:Nat)(R:View→List Value→α→Prop)(bs:Nat)(h:View):RSl sz R bs h (.slice none 0 0) []:=⟨none,0,rfl,Za _,Zf _,by simp,fun _=>rfl,fun h=>by simp at h⟩
theorem Zi3(b:Region.wanted o (yielded ops a.tmps)=true)(ty:TypeId)(x:Operand)(e:o.op=.load ty x)(g:Nat)(c:a.eval x=.pointer (some ⟨g,0,none⟩))(t:TypeId)(cs:Array Value)(fr:Nat×Nat)(d:TypeDesc)(f:w.heap[g]?=some (.cells cs t fr))(hu:P.underlying ty=some d)(hd:(match d with|.struct _|.array _ _=>true|_=>false)=true)(hi:(P.info? ty).map (·.size)=some cs.size)(h:wpList P ops Q rest (a.put o.dst (.agg cs)) w):wpList P ops Q (o::rest) a w :=
 wpList_step fun K i=>by rw[if_pos b];exact wp_load_row ty x e g c t cs fr d f hu hd hi (i _ _ h)
def Zld(l:List Sign)(bad:Int)(s:Sign):Int:=if Zei l≠0 then Zei l else if inB bad (-1) 3 then Zle s.node s.slot.author s.slot.round s.slot.digest.length else 2
def Zje(l:List Sign)(bad:Int)(s:Sign):Bool:=if Zld l bad s≠0 then false else s.node==bad||Zce l s
theorem bad_any(n:Int)(w:World):Calls prog 146 #[.int .i64 n] w fun e w'=>e=.returned (.bool (inB n (-1) 3))∧w=w':=by
 by_cases a: -1≤n<;>by_cases c:n<4
 all_goals
  have b:inB n (-1) 3=decide (-1≤n∧n≤3):=rfl;go_enter func146,ntmps146;go_wp2;go_ret;exact⟨Zao (by simp[inB];try omega),rfl⟩
theorem Zuj(v:Value)(l:List Sign)(bad:Int)(s:Sign)(sd:Value)(w:World)(x:RSigns w.cell? v l)(k:Zan w.cell? sd s.slot.digest) :
 Calls prog 182 #[v,.int .i64 bad,.agg #[.int .i64 s.node,.int .i64 s.slot.author,.int .i64 s.slot.round,sd]] w fun e w'=>e=.returned (.tuple #[.bool (Zje l bad s),.int .i64 (Zld l bad s)])∧Below w.heap.size w w':=by
 obtain⟨p,hp⟩:∃p,Hid (Zei l=p):=⟨_,rfl⟩;obtain⟨q,y⟩:∃q,Hid (Zle s.node s.slot.author s.slot.round s.slot.digest.length=q):=⟨_,rfl⟩;obtain⟨b,h⟩:∃b,Hid (inB bad (-1) 3=b):=⟨_,rfl⟩;obtain⟨z,u⟩:∃z,Hid (Zce l s=z):=⟨_,rfl⟩;have i:Hid (Zld l bad s=if p≠0 then p else if b then q else 2):=by show _=_;rw[Zld,hp.out,y.out,h.out]
 have j:Hid (Zje l bad s=if (if p≠0 then p else if b then q else 2)≠0 then false else s.node==bad||z):=by show _=_;rw[Zje,i.out,u.out]
 obtain⟨sA,sc,rfl,_⟩:=id k;go_enter func182,ntmps182;go_wp2_with fail;refine Za9 _ _ _ (fun W=>Calls prog _ _ W _) (fun W B A o=>?_);refine(Zf8 _ l _ (x.mono RSign.mono (Zaa o))).mono ?_;rintro e w1 ⟨rfl,g⟩;rw[hp.out];have c:=o.trans (g.mono (by omega));have d:=B.kept g;clear g
 by_cases m:p=0
 ·subst m;go_wp2_with fail;refine(bad_any _ _).mono ?_;rintro e w' ⟨rfl,rfl⟩;rw[h.out];cases b
  ·go_wp2;go_ret2;exact⟨by rw[i.out,j.out];rfl,c⟩
  ·have c0:=d.cell 0;have c1:=d.cell 1;have c2:=d.cell 2;have c3:=d.cell 3;simp at c0 c1 c2 c3;go_wp2_with fail;refine(Zfb _ _ _ _ _ _ _).mono ?_;rintro e w2 ⟨rfl,n⟩;rw[y.out];have a:=c.trans (n.mono c.size);have f:=d.kept n;clear c0 c1 c2 c3;have c0:=f.cell 0;have c1:=f.cell 1;have c2:=f.cell 2;have c3:=f.cell 3;simp at c0 c1 c2 c3
   by_cases r:q=0
   ·subst r;cases hn:(s.node==bad)
    ·go_wp2_with fail;refine(Zf7 _ l s _ _ (x.mono RSign.mono (Zaa a)) (k.mono (Zaa a))).mono ?_
     rintro e w3 ⟨rfl,t⟩;rw[u.out];go_wp2;go_ret2;exact⟨by rw[i.out,j.out,hn];rfl,a.trans (t.mono a.size)⟩
    ·go_wp2;go_ret2;exact⟨by rw[i.out,j.out,hn];rfl,a⟩
   ·go_wp2;go_ret2;exact⟨by rw[i.out,j.out];simp[r],a⟩
 ·go_wp2;go_ret2;exact⟨by rw[i.out,j.out];simp[m],c⟩
section
variable {P:Program} {ops:Array Oper} {Q:Exit→Act→World→Prop} {S:World→Prop} {C:List Nat}
theorem wpC_first{T:World→Prop}{oi:Oper}(hi:ops[i]?=some oi)(p:∀(j:Nat) (o:Oper) cs b,ops[j]?=some o→o.op≠.select cs b)(N:∀c a w,Q (.panic c) (a.put oi.dst v) w→Q (.panic c) a w)(hT:∀j oj w,ops[j]?=some oj→(∀e∈oj.after,Region.binds .any e=true→e.on≠i)→(j∉C→S w)→T w)(y:i∉C→∀w,T w→S w) :
 ∀(fuel:Nat) (listed:Array Bool) (a:Act) (w:World),
  (∀j oj,ops[j]?=some oj→j≠i→listed.getD j true=false→(∀e∈oj.after,Region.binds .any e=true→e.on≠i)→oi.apart ops oj=true) →
  i∈Region.ready .any ops listed→YieldsIf P ops T oi v a→T w →
  wpC P ops Q S C fuel (listed.setIfInBounds i true) (a.put oi.dst v) w→wpC P ops Q S C (fuel+1) listed a w:=by
 intro fuel
 induction fuel with
 |zero =>
  intro listed a w _ s z g H
  refine⟨fun h=>(by rw[h]at s;cases s),fun j A=>?_⟩
  by_cases d:j=i
  ·subst d;exact z.wpOp hi g ⟨fun hn=>y hn w g,H⟩
  ·have:=ready_mono A d
   rw[H.1]at this
   cases this
 |succ fuel ih =>
  intro listed a w f s z g H
  refine⟨fun h=>(by rw[h]at s;cases s),fun j A=>?_⟩
  by_cases d:j=i
  ·subst d;exact z.wpOp hi g ⟨fun hn=>y hn w g,H⟩
  ·have r:=H.2 j (ready_mono A d)
   obtain⟨q,oj,l,x⟩:=mem_ready.1 A
   have n:∀e∈oj.after,Region.binds .any e=true→e.on≠i:=fun e J M E=>by
    have r:=x e J M
    have I:=(mem_ready.1 s).1
    rw[E]at r
    rcases Nat.lt_or_ge i listed.size with G|G
    ·simp[G]at I r;rw[I]at r;cases r
    ·simp[Array.getElem?_eq_none G]at r
   have K:=wpOp_putIf l (f j oj l d q n) (fun cs b=>p i oi cs b hi) (fun cs b=>p j oj cs b l) N z r
   have m:∀k ok,ops[k]?=some ok→k≠i→(listed.setIfInBounds j true).getD k true=false →
    (∀e∈ok.after,Region.binds .any e=true→e.on≠i)→oi.apart ops ok=true:=fun k ok L D u F=>by
    refine f k ok L D ?_ F
    by_cases t:j=k
    ·subst t;exact q
    ·rw[getD_set_ne true t]at u;exact u
   refine wpOp_mono (fun a' w' B=>⟨B.2.1,ih (listed.setIfInBounds j true) a' w' m (ready_mono s (Ne.symm d)) B.1 (hT j oj w' l n B.2.1) ?_⟩) K
   rw[Array.setIfInBounds_comm _ _ d]
   exact B.2.2
def closeOk(ops:Array Oper)(C:List Nat)(i:Nat):Bool:=C.all fun j=>match ops[j]? with|some o=>o.after.any (fun e=>Region.binds .any e&&e.on==i)|none=>false
def Pl.ok(ops:Array Oper)(C:List Nat):Pl→Array Bool→Bool
 |.nil,x=>(Region.ready .any ops x).isEmpty
 |.q i p,x=>Region.free .any ops x i&&(Region.ready .any ops x).contains i&&closeOk ops C i&& !C.contains i&&p.ok ops C (x.setIfInBounds i true)
 |.qc i p,x=>Region.free .any ops x i&&(Region.ready .any ops x).contains i&&C.contains i&&p.ok ops C (x.setIfInBounds i true)
 |.l i p,x=>Region.ready .any ops x==[i]&&p.ok ops C (x.setIfInBounds i true)
 |.alt i p j r,x=>Region.ready .any ops x==[i,j]&&p.ok ops C (x.setIfInBounds i true)&&r.ok ops C (x.setIfInBounds j true)&&p.fuel==r.fuel
theorem Pl.sound(g:Region.noSelect ops=true)(m:∀c a d v w,Q (.panic c) (Act.put a d v) w→Q (.panic c) a w) :
 ∀(t:Pl) (x:Array Bool) (a:Act) (w:World),t.ok ops C x=true→t.wp P ops Q S C a w→wpC P ops Q S C t.fuel x a w
 |.nil,x,a,w,hp,h=>⟨by simpa[Pl.ok]using hp,h⟩
 |.q i p,x,a,w,hp,h=>by
  obtain⟨o,v,n,B,E,G⟩:=h
  simp only[Pl.ok,Bool.and_eq_true,Bool.not_eq_true']at hp
  obtain⟨⟨⟨⟨e,s⟩,y⟩,H⟩,F⟩:=hp
  refine wpC_first (T:=S) n (Region.noSelect_spec g) (fun c a w=>m c a o.dst v w) (fun j oj w' z D I=>I (fun J=>?_)) (fun _ _ h=>h) p.fuel x a w (Region.free_spec n e) (by simpa using s) B E (Pl.sound g m p _ _ w F G)
  have:=List.all_eq_true.1 y j J
  rw[z]at this
  obtain⟨k,u,f⟩:=Array.any_eq_true.1 this
  simp only[Bool.and_eq_true,beq_iff_eq]at f
  exact D _ (Array.getElem_mem u) f.1 f.2
 |.qc i p,x,a,w,hp,h=>by
  obtain⟨o,v,n,B,G⟩:=h
  simp only[Pl.ok,Bool.and_eq_true]at hp
  obtain⟨⟨⟨e,s⟩,y⟩,F⟩:=hp
  refine wpC_first (T:=fun _=>True) n (Region.noSelect_spec g) (fun c a w=>m c a o.dst v w) (fun _ _ _ _ _ _=>trivial) (fun hn _ _=>absurd (by simpa using y) hn) p.fuel x a w (Region.free_spec n e) (by simpa using s) B trivial (Pl.sound g m p _ _ w F G)
 |.l i p,x,a,w,hp,h=>by
  simp only[Pl.ok,Bool.and_eq_true,beq_iff_eq]at hp
  refine⟨fun A=>by rw[A]at hp;exact absurd hp.1 (by simp),fun j z=>?_⟩
  rw[hp.1]at z
  rw[Zv z]
  exact wpOp_mono (fun a' w' b=>⟨Zgb b.1,Pl.sound g m p _ a' w' hp.2 b.2⟩) h
 |.alt i p j r,x,a,w,hp,h=>by
  simp only[Pl.ok,Bool.and_eq_true,beq_iff_eq]at hp
  obtain⟨⟨⟨e,s⟩,y⟩,H⟩:=hp
  refine⟨fun A=>by rw[A]at e;exact absurd e (by simp),fun k u=>?_⟩
  rw[e]at u
  simp only[List.mem_cons,List.not_mem_nil,or_false]at u
  rcases u with rfl|rfl
  ·exact wpOp_mono (fun a' w' b=>⟨Zgb b.1,Pl.sound g m p _ a' w' s b.2⟩) h.1
  ·exact wpOp_mono (fun a' w' b=>⟨Zgb b.1,by have:=Pl.sound g m r _ a' w' y b.2;rw[←H]at this;exact this⟩) h.2
inductive PlT where
 |q (i:Nat) (p:PlT)
 |l (i:Nat) (p:PlT)
 |alt3 (i:Nat) (p:Pl) (j:Nat) (r:Pl) (k:Nat) (s:Pl)
def PlT.fuel:PlT→Nat
 |.q _ p=>p.fuel+1
 |.l _ p=>p.fuel+1
 |.alt3 _ p _ _ _ _=>p.fuel+1
def PlT.ok(ops:Array Oper)(C:List Nat):PlT→Array Bool→Bool
 |.q i p,x=>Region.free .any ops x i&&(Region.ready .any ops x).contains i&&closeOk ops C i&& !C.contains i&&p.ok ops C (x.setIfInBounds i true)
 |.l i p,x=>Region.ready .any ops x==[i]&&p.ok ops C (x.setIfInBounds i true)
 |.alt3 i p j r k s,x=>Region.ready .any ops x==[i,j,k]&&p.ok ops C (x.setIfInBounds i true)&&r.ok ops C (x.setIfInBounds j true)&&s.ok ops C (x.setIfInBounds k true)&&p.fuel==r.fuel&&p.fuel==s.fuel
def PlT.wp(P:Program)(ops:Array Oper)(Q:Exit→Act→World→Prop)(S:World→Prop)(C:List Nat):PlT→Act→World→Prop
 |.q i p,a,w=>∃o v,ops[i]?=some o∧YieldsIf P ops S o v a∧(S w∧p.wp P ops Q S C (a.put o.dst v) w)
 |.l i p,a,w=>wpOp P ops Q i (fun a' w'=>owed S C i w'∧p.wp P ops Q S C a' w') a w
 |.alt3 i p j r k s,a,w=>wpOp P ops Q i (fun a' w'=>owed S C i w'∧p.wp P ops Q S C a' w') a w∧wpOp P ops Q j (fun a' w'=>owed S C j w'∧r.wp P ops Q S C a' w') a w∧wpOp P ops Q k (fun a' w'=>owed S C k w'∧s.wp P ops Q S C a' w') a w
theorem PlT.sound(f:Region.noSelect ops=true)(g:∀c a d v w,Q (.panic c) (Act.put a d v) w→Q (.panic c) a w) :
 ∀(t:PlT) (x:Array Bool) (a:Act) (w:World),t.ok ops C x=true→t.wp P ops Q S C a w→wpC P ops Q S C t.fuel x a w
 |.q i p,x,a,w,hp,h=>by
  obtain⟨o,v,F,H,B,M⟩:=h
  simp only[PlT.ok,Bool.and_eq_true,Bool.not_eq_true']at hp
  obtain⟨⟨⟨⟨m,y⟩,E⟩,G⟩,D⟩:=hp
  refine wpC_first (T:=S) F (Region.noSelect_spec f) (fun c a w=>g c a o.dst v w) (fun j oj w' n z I=>I (fun J=>?_)) (fun _ _ h=>h) p.fuel x a w (Region.free_spec F m) (by simpa using y) H B (PlT.sound f g p _ _ w D M)
  have:=List.all_eq_true.1 E j J
  rw[n]at this
  obtain⟨k,K,e⟩:=Array.any_eq_true.1 this
  simp only[Bool.and_eq_true,beq_iff_eq]at e
  exact z _ (Array.getElem_mem K) e.1 e.2
 |.l i p,x,a,w,hp,h=>by
  simp only[PlT.ok,Bool.and_eq_true,beq_iff_eq]at hp
  refine⟨fun u=>by rw[u]at hp;exact absurd hp.1 (by simp),fun j n=>?_⟩
  rw[hp.1]at n
  rw[Zv n]
  exact wpOp_mono (fun a' w' b=>⟨Zgb b.1,PlT.sound f g p _ a' w' hp.2 b.2⟩) h
 |.alt3 i p j r k s,x,a,w,hp,h=>by
  simp only[PlT.ok,Bool.and_eq_true,beq_iff_eq]at hp
  obtain⟨⟨⟨⟨⟨m,y⟩,E⟩,G⟩,D⟩,L⟩:=hp
  refine⟨fun u=>by rw[u]at m;exact absurd m (by simp),fun q A=>?_⟩
  rw[m]at A
  simp only[List.mem_cons,List.not_mem_nil,or_false]at A
  rcases A with rfl|rfl|rfl
  ·exact wpOp_mono (fun a' w' b=>⟨Zgb b.1,Pl.sound f g p _ a' w' y b.2⟩) h.1
  ·exact wpOp_mono (fun a' w' b=>⟨Zgb b.1,by have:=Pl.sound f g r _ a' w' E b.2;rw[←D]at this;exact this⟩) h.2.1
  ·exact wpOp_mono (fun a' w' b=>⟨Zgb b.1,by have:=Pl.sound f g s _ a' w' G b.2;rw[←L]at this;exact this⟩) h.2.2
theorem Zn6{id:Nat}{l:List Oper}(S0 S:World→Prop)(C:List Nat)(t:PlT)(f:P.follows .mixedOrders=true)(g:Region.noSelect l.toArray=true)(j:∀c a d v w,Q (.panic c) (Act.put a d v) w→Q (.panic c) a w)(b:t.fuel=l.length)(i:t.ok l.toArray C (Array.replicate l.length false)=true)(e:S0 w.drew∧S w.drew)(h:∀W,S0 W→S W→t.wp P l.toArray Q S C a W):(Code.region id l.toArray true).wp P Q a w:=by
 refine wp_region_any f (Zi6 (S:=S) (C:=C) _ _ _ _ ?_);have:=PlT.sound (P:=P) (S:=S) (C:=C) g j t (Array.replicate l.length false) a w.drew i (h _ e.1 e.2);rw[b]at this;simpa using this
theorem plt_q{p:PlT}(d:S w)(b:ops[i]?=some o)(c:Region.wanted o (yielded ops a.tmps)=true)(h:∃v,(∀w,S w→(execOp a.eval o).run P w=.ok (.value v) w)∧p.wp P ops Q S C (a.put o.dst v) w):PlT.wp P ops Q S C (.q i p) a w :=
 let ⟨v,hv,h⟩:=h
 ⟨o,v,b,.inl ⟨c,hv⟩,d,h⟩
theorem plt_alt{p r s:Pl}(b:wpOp P ops Q i (fun a' w'=>owed S C i w'∧p.wp P ops Q S C a' w') a w)(c:wpOp P ops Q j (fun a' w'=>owed S C j w'∧r.wp P ops Q S C a' w') a w)(d:wpOp P ops Q k (fun a' w'=>owed S C k w'∧s.wp P ops Q S C a' w') a w):PlT.wp P ops Q S C (.alt3 i p j r k s) a w:=⟨b,c,d⟩
end
namespace Ln
def noC(c:UInt8)(l:List UInt8):Prop:=∀b∈l,b≠c
theorem noC.append{c:UInt8}{a b:List UInt8}(h:noC c a)(k:noC c b):noC c (a++b):=fun x d=>(List.mem_append.1 d).elim (h x) (k x)
theorem Ztm{c:UInt8}:∀{a:List UInt8} (r:List UInt8),noC c a→fst1 c (a++c::r)=a.length
 |[],r,_=>Zfh c r
 |b::a,r,h=>by
  rw[List.cons_append,Zfg _ (h b (by simp)),Ztm r (fun x d=>h x (by simp[d]))];rfl
theorem Zog{c:UInt8}:∀{a:List UInt8} (r:List UInt8),noC c a→spl c (a++c::r)=a::spl c r
 |[],r,_=>by simp[spl]
 |b::a,r,h=>by
  rw[List.cons_append,spl,if_neg (h b (by simp)),Zog r (fun x d=>h x (by simp[d]))]
theorem Zk9{c:UInt8}:∀{a:List UInt8},noC c a→spl c a=[a]
 |[],_=>rfl
 |b::a,h=>by rw[spl,if_neg (h b (by simp)),Zk9 (fun x d=>h x (by simp[d]))]
theorem dec_all(n:Nat):allD (Lib.decDigits n):=(Ziz n).1.1
theorem Zts{c:UInt8}(d:c.toNat<48)(n:Int):noC c (decL n):=fun b a e=>by
 have:=dec_all n.toNat b a
 rw[e]at this;omega
theorem Zxc{n:Int}(c:0≤n)(d:n≤9223372036854775807):numP (decL n)=some n:=by
 obtain⟨b,a,_⟩:=Ziz n.toNat;unfold numP decL;rw[atoi_dec _ b (by rw[a];omega),a];simp only;rw[if_pos]
 ·congr 1;omega
 ·refine⟨by omega,?_⟩;unfold Lib.itoa;rw[if_neg (by omega),Int.toNat_natCast]
theorem Zqs:∀n,n<16→hexv (hexd n)=some n:=by
 intro n h;have hd:∀m:Fin 16,hexv (hexd m.val)=some m.val:=by decide +kernel
 exact hd ⟨n,h⟩
theorem Zpn:∀l:List UInt8,Zbx (hexL l)=some l
 |[]=>rfl
 |b::l=>by
  have a:=UInt8.toNat_lt b
  have e:hexL (b::l)=hexd (b.toNat/16)::hexd (b.toNat%16)::hexL l:=rfl
  rw[e,Zbx,Zqs _ (by omega),Zqs _ (by omega),Zpn l]
  simp only
  rw[show 16*(b.toNat/16)+b.toNat%16=b.toNat by omega]
  simp
theorem Zxv{c:UInt8}(a:c.toNat<48):∀n,n<16→hexd n≠c:=by
 intro n h e;have hd:∀m:Fin 16,48≤(hexd m.val).toNat:=by decide +kernel
 have:=hd ⟨n,h⟩;simp only at this;rw[e]at this;omega
theorem hex_no{c:UInt8}(d:c.toNat<48)(l:List UInt8):noC c (hexL l):=fun b e=>by
 obtain⟨x,_,a⟩:=List.mem_flatMap.1 e
 have:=UInt8.toNat_lt x
 simp at a
 rcases a with rfl|rfl
 ·exact Zxv d _ (by omega)
 ·exact Zxv d _ (by omega)
theorem Zv0{c:UInt8}(g:c.toNat<97)(k:Nat):noC c (Ze9 k):=fun b d e=>by
 have f:∀l∈Zkz,∀b∈l,97≤b.toNat:=by decide
 have a:Ze9 k=[]∨Ze9 k∈Zkz:=by
  unfold Ze9
  cases hq:Zkz[k]? with
  |none=>exact .inl rfl
  |some l=>exact .inr (List.mem_of_getElem? hq)
 rcases a with a|a
 ·rw[a]at d;cases d
 ·have:=f _ a b d
  rw[e]at this;omega
theorem Zxr:∀k:Nat,1≤k→k≤10→Zfx (Ze9 k)=k:=by
 intro k a b;have:∀m:Fin 10,Zfx (Ze9 (m.val+1))=((m.val+1:Nat):Int):=by decide +kernel
 have:=this ⟨k-1,by omega⟩;simp only[show k-1+1=k by omega]at this;exact this
structure AFit (a:Ac):Prop where
 kind:1≤a.kind∧a.kind≤10
 node:0≤a.node∧a.node≤3
 pick:0≤a.pick∧a.pick≤400000
 hn:hN a.kind=false→a.node=0
 hp:hP a.kind=false→a.pick=0
 ht:hT a.kind=false→a.text.data.toList=[]
theorem aFit{a:Ac}(h:actE a=0):AFit a:=by
 unfold actE actF at h;split at h
 ·cases h
 ·rename_i g;split at h
  ·cases h
  ·rename_i f;split at h
   ·cases h
   ·rename_i i;split at h
    ·cases h
    ·rename_i d;simp only[Bool.or_eq_true,Bool.and_eq_true,Bool.not_eq_true',bne_iff_ne,ne_eq,not_or,not_and,Bool.not_eq_false,Decidable.not_not,decide_eq_true_eq,beq_iff_eq,inB]at g f i d;have c:hN a.kind=false→a.node=0:=fun e=>d.1.1 (by simpa using e)
     have b:hP a.kind=false→a.pick=0:=fun e=>d.1.2 (by simpa using e)
     refine⟨g,?_,?_,c,b,fun e=>?_⟩
     ·cases e:hN a.kind
      ·rw[c e];decide
      ·exact f.1 e
     ·cases e:hP a.kind
      ·rw[b e];decide
      ·exact f.2 e
     ·have:=d.2 (by simpa using e);rw[←ByteArray.toList_eq];exact this
def Zi0(a:Ac):List UInt8:=Ze9 a.kind.toNat++((if hN a.kind then 32::decL a.node else [])++((if hP a.kind then 32::decL a.pick else [])++(if hT a.kind then 32::hexL a.text.data.toList else [])))
theorem Znp(a:Ac):lineL a=Zi0 a++[10]:=by unfold lineL Zi0;simp
theorem noC.sp{c:UInt8}{l:List UInt8}(h:noC c l)(d:c≠32):noC c (32::l):=fun b a=>by
 rcases List.mem_cons.1 a with rfl|a
 ·exact fun e=>d e.symm
 ·exact h b a
theorem body_no(a:Ac):noC 10 (Zi0 a):=by
 unfold Zi0;refine(Zv0 (by decide) _).append (noC.append ?_ (noC.append ?_ ?_))
 ·split
  ·exact(Zts (by decide) _).sp (by decide)
  ·intro b c;cases c
 ·split
  ·exact(Zts (by decide) _).sp (by decide)
  ·intro b c;cases c
 ·split
  ·exact(hex_no (by decide) _).sp (by decide)
  ·intro b c;cases c
theorem hT_hN{k:Int}(h:hT k=true):hN k=true∧hP k=false:=by
 unfold hT at h;simp at h
 rcases h with rfl|rfl<;>decide
theorem Zzo(a:Ac):spl 32 (Zi0 a)=Ze9 a.kind.toNat::((if hN a.kind then [decL a.node]else [])++((if hP a.kind then [decL a.pick]else [])++(if hT a.kind then [hexL a.text.data.toList]else []))):=by
 have w:=Zv0 (c:=32) (by decide) a.kind.toNat;have d1:=Zts (c:=32) (by decide) a.node;have d2:=Zts (c:=32) (by decide) a.pick;have d3:=hex_no (c:=32) (by decide) a.text.data.toList;unfold Zi0
 cases h1:hN a.kind<;>cases h2:hP a.kind<;>cases h3:hT a.kind<;>simp[Zog _ w,Zog _ d1,Zog _ d2,Zk9 w,Zk9 d1,Zk9 d2,Zk9 d3]
theorem Zxg{a:Ac}(h:actE a=0):lineG numP (Zi0 a)=some a:=by
 have f:=aFit h
 have e:Zfx (Ze9 a.kind.toNat)=a.kind:=by
  have:=Zxr a.kind.toNat (by have:=f.kind;omega) (by have:=f.kind;omega);rw[this];have:=f.kind;omega
 have hn:=Zxc f.node.1 (by have:=f.node;omega);have hp:=Zxc f.pick.1 (by have:=f.pick;omega);unfold lineG;rw[Zzo];simp only[List.headD_cons,List.drop_succ_cons,List.drop_zero,e];rw[if_neg]
 ·obtain⟨k,n,p,t⟩:=a;simp only at hn hp f e⊢;have c:=f.hn;have b:=f.hp;have d:=f.ht;simp only at c b d;unfold actR Zry Zrr Zps;cases e1:hN k
  ·cases e3:hT k
   ·have ht:mkS []=t:=by rw[←d e3];exact Zdp t
    cases e2:hP k
    ·simp[c e1,b e2,ht]
    ·simp[c e1,hp,ht]
   ·have:=hT_hN e3;rw[e1]at this;cases this.1
  ·cases e3:hT k
   ·have ht:mkS []=t:=by rw[←d e3];exact Zdp t
    cases e2:hP k
    ·simp[hn,b e2,ht]
    ·simp[hn,hp,ht]
   ·have e2:=(hT_hN e3).2;simp[hn,e2,b e2,Zpn,Zdp]
 ·rintro(q|q)
  ·have:=f.kind;omega
  ·refine q ?_;unfold Zfd
   cases hN a.kind<;>cases hP a.kind<;>cases hT a.kind<;>rfl
theorem Zxh(a:Ac):0<(lineL a).length:=by rw[Znp];simp
theorem read_back:∀(l:List Ac) (n i:Nat) (out:List Ac),(∀a∈l,actE a=0)→i+l.length≤3000→l.length≤n→readG (lineG numP) n i (showL l) out=(out++l,0,0)
 |[],n,i,out,_,_,_=>by cases n<;>simp[readG,showL]
 |a::l,0,i,out,_,_,h=>by simp at h
 |a::l,n+1,i,out,h,hi,hn=>by
  have c:=h a (by simp)
  have e:showL (a::l)=Zi0 a++10::showL l:=by
   show lineL a++showL l=_
   rw[Znp];simp
  have d:fst1 10 (Zi0 a++10::showL l)=(Zi0 a).length:=Ztm _ (body_no a)
  rw[e,readG,if_neg (by simp),if_neg (by simp at hi;omega),d,if_neg (by simp)]
  rw[List.take_left',Zxg c]<;>try rfl
  simp only
  rw[if_pos c,show(Zi0 a).length+1=(Zi0 a++[10]).length by simp,show Zi0 a++10::showL l=(Zi0 a++[10])++showL l by simp,List.drop_left' rfl]
  rw[read_back l n (i+1) (out++[a]) (fun b f=>h b (by simp[f])) (by simp at hi;omega) (by simp at hn;omega)]
  simp
theorem show_ok{l:List Ac}(h:∀a∈l,actE a=0)(c:l.length≤3000):Zrn l=(showL l,0,0):=by
 unfold Zrn;rw[if_neg (by omega),if_neg];unfold badI;have:l.findIdx (fun a=>actE a != 0)=l.length:=List.findIdx_eq_length.2 (fun a b=>by simp[h a b]);omega
theorem show_len:∀l:List Ac,l.length≤(showL l).length
 |[]=>by simp
 |a::l=>by
  have:=show_len l
  have b:=Zxh a
  show(a::l).length≤(lineL a++showL l).length
  simp;omega
end Ln
end Go.Proofs.YtbcpbnfojfiekaaGreatDoor
