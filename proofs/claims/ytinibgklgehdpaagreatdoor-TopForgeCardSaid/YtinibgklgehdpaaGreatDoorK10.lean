/- A part of what the last text stands on. -/
import Derived.Deep.DeepCutAuto
import Derived.Deep.CutBlock
import Derived.Test.YtinibgklgehdpaaGreatDoorK03
import Derived.Test.YtinibgklgehdpaaGreatDoorK04
import Derived.Test.YtinibgklgehdpaaGreatDoorK07
import Derived.Test.YtinibgklgehdpaaGreatDoorK08
import Derived.Test.YtinibgklgehdpaaGreatDoorK09
namespace Go.Proofs.YtinibgklgehdpaaGreatDoor
open Go.ChangeShapes Go.WideShapes Go.ChangeAt Go.RowKit Qa Qb Qc
set_option linter.all false
set_option maxHeartbeats 20000000
set_option maxRecDepth 100000
variable{P:Program}{w W:World}{a:Act}{o:Oper}{ops:Array Oper}{rest:List Oper}{Q:Exit→Act→World→Prop}{v:Value}{cur cs:Array Value}{A:Option Addr}{h:View}{t te:TypeId}{k g off c:Nat}{x y:Operand}{α:Type}
theorem Zm0(w:World)(o1 o2:Obj):Below w.heap.size w ((w.alloc o1).alloc o2):=((Below.refl _ _).alloc (Nat.le_refl _) _).alloc (Zau _ (Nat.le_refl _)) _
def Zb1(l:List Slot)(au ro:Int):Int:=match l.findIdx? (fun s=>s.author==au&&s.round==ro)with|some i=>i|none=> -1
theorem Zor{l:List Slot}{au ro:Int}(hk:k<l.length)(h:∀j (hj:j<l.length),j<k→(l[j].author==au&&l[j].round==ro)=false)(hp:(l[k].author==au&&l[k].round==ro)=true):Zb1 l au ro=k:=by
 have:l.findIdx? (fun s=>s.author==au&&s.round==ro)=some k:=by
  rw[List.findIdx?_eq_some_iff_getElem];exact⟨hk,hp,fun j hj=>by simp[h j (by omega) hj]⟩
 simp only[Zb1,this]
theorem Zp2{l:List Slot}{au ro:Int}(h:∀j (hj:j<l.length),(l[j].author==au&&l[j].round==ro)=false):Zb1 l au ro= -1:=by
 have:l.findIdx? (fun s=>s.author==au&&s.round==ro)=none:=by
  rw[List.findIdx?_eq_none_iff];intro x hx;obtain⟨i,hi,rfl⟩:=List.getElem_of_mem hx;simp[h i hi]
 simp only[Zb1,this]
theorem Ztc(s:Slot)(d:Value)(au ro:Int)(b1 b2:Nat)(w:World)(h1:w.cell? ⟨b1,0,none⟩=some (.int .i64 au))(h2:w.cell? ⟨b2,0,none⟩=some (.int .i64 ro)) :
 Calls Tryz.prog 198 #[.agg #[.int .i64 s.author,.int .i64 s.round,d],.pointer (some ⟨b1,0,none⟩),.pointer (some ⟨b2,0,none⟩)] w fun e w'=>e=.returned (.bool (s.author==au&&s.round==ro))∧Below w.heap.size w w':=by
 have g1:=World.block_lt_of_cell? w _ h1;have g2:=World.block_lt_of_cell? w _ h2;have k1:=Zgz h1;have k2:=Zgz h2;clear h1 h2
 cases e1:(s.author==au)<;>cases e2:(s.round==ro)
 all_goals
  go_enter Tryz.func198,Tryz.ntmps198
  go_wp2;go_ret;exact⟨rfl,Zac _ _⟩
theorem Znv(vl:Value)(l:List Slot)(au ro:Int)(b1 b2:Nat)(w:World)(hl:RSlots w.cell? vl l)(h1:w.cell? ⟨b1,0,none⟩=some (.int .i64 au))(h2:w.cell? ⟨b2,0,none⟩=some (.int .i64 ro)) :
 Calls Tryz.prog 197 #[vl,.func (.func 198) #[] #[.pointer (some ⟨b1,0,none⟩),.pointer (some ⟨b2,0,none⟩)]] w fun e w'=>e=.returned (.int .i64 (Zb1 l au ro))∧Below w.heap.size w w':=by
 obtain⟨A,c,rfl,_⟩:=id hl;obtain⟨_,hn1,hn2,hel⟩:=hl.at;have Hel:=Lib.hid hel;have H1:=Lib.hid h1;have H2:=Lib.hid h2;clear hl hel h1 h2
 go_enter Tryz.func197,Tryz.ntmps197
 go_wp2
 go_loopw [8] (fun i wr=>∃k:Nat,k≤l.length∧i=.int .i64 k∧Hid (∀j (hj:j<l.length),j<k→(l[j].author==au&&l[j].round==ro)=false)∧Below w.heap.size w wr) (fun i _=>l.length-(intOf i).toNat)
 case atStart=>exact⟨0,Nat.zero_le _,rfl,fun j _ hj=>by omega,Below.refl _ _⟩
 case round =>
  obtain⟨k,hk,rfl,hno,hbl⟩:=hrel
  by_cases hlt:k<l.length
  ·obtain⟨b0,o0,d,rfl,q0,q1,q2,hd⟩:=Hel.out k hlt;have c0:=Zaa hbl _ _ q0;have c1:=Zaa hbl _ _ q1;have c2:=Zaa hbl _ _ q2;clear hd q0 q1 q2
   go_wp2_with fail
   refine(Ztc l[k] d au ro b1 b2 _ (Zaa hbl _ _ H1.out) (Zaa hbl _ _ H2.out)).mono ?_;rintro e w1 ⟨rfl,hb1⟩;have hbl1:=hbl.trans (hb1.mono hbl.size);cases e1:(l[k].author==au&&l[k].round==ro)
   ·have Hb:=Lib.hid e1;clear e1;go_wp2;go_roundw
    case rel=>exact⟨k+1,by omega,by go_num,fun j hj hjk=>by
     by_cases e:j=k
     ·subst e;exact Hb.out
     ·exact hno.out j hj (by omega),hbl1⟩
    case measure=>simp[intOf];omega
   ·have Hb:=Lib.hid e1;clear e1;go_wp2;go_ret;exact⟨Zaj (Zor hlt hno.out Hb.out).symm,hbl1⟩
  ·go_wp2;go_ret;exact⟨Zaj (Zp2 fun j hj=>hno.out j hj (by omega)).symm,hbl⟩
theorem Zrs(vl:Value)(l:List Slot)(au ro:Int)(w:World)(hl:RSlots w.cell? vl l) :
 Calls Tryz.prog 189 #[vl,.int .i64 au,.int .i64 ro] w fun e w'=>e=.returned (.int .i64 (Zb1 l au ro))∧Below w.heap.size w w':=by
 have hl':=hl.mono RSlot.mono (Zaa (Zm0 w (.cells #[.int .i64 au] 3) (.cells #[.int .i64 ro] 3)))
 go_enter Tryz.func189,Tryz.ntmps189
 go_wp2_with fail
 refine(Znv _ _ au ro _ _ _ hl' (by go_simp) (by go_simp)).mono ?_;rintro e w1 ⟨rfl,hb⟩;go_wp2;go_ret;exact⟨rfl,(Zm0 _ _ _).trans (hb.mono (by simp;omega))⟩
def Zhn(l:List Slot)(i:Nat):Bool:=match l[i]? with|some s=>Zf7 s.author s.round s.digest.length != 0||decide (0≤Zb1 (l.take i) s.author s.round)|none=>false
def Zdb(l:List Slot):Int:=if 400<l.length then 12 else if (List.range l.length).any (Zhn l)then 12 else 0
theorem Ztp{l:List Slot}(hk:k<l.length):Zhn l k=(Zf7 l[k].author l[k].round l[k].digest.length != 0||decide (0≤Zb1 (l.take k) l[k].author l[k].round)):=by
 unfold Zhn;rw[List.getElem?_eq_getElem hk]
theorem RSlots.take{n:Nat}{xs:List Slot}(hr:RSlots h (.slice A n c) xs)(hk:k≤xs.length):RSlots h (.slice A k c) (xs.take k):=by
 obtain⟨A',c',e,h1,h2,h3,h4,h5⟩:=hr;injection e with e1 e2 e3;subst e1 e2 e3;have hl:(xs.take k).length=k:=by simp;omega
 refine⟨A,c,by rw[hl],by omega,h2,?_,h4,fun hp=>?_⟩
 ·rw[hl];exact Nat.le_trans (Nat.mul_le_mul_right _ hk) h3
 ·obtain⟨b,o,ea,hc⟩:=h5 (by omega);refine⟨b,o,ea,fun i hi=>?_⟩;rw[hl]at hi;obtain⟨cs,q1,q2,q3⟩:=hc i (by omega);exact⟨cs,q1,q2,by rw[List.getElem_take];exact q3⟩
theorem Zly(v:Value)(l:List Slot)(w:World)(hv:RSlots w.cell? v l) :
 Calls Tryz.prog 188 #[v] w fun e w'=>e=.returned (.int .i64 (Zdb l))∧Below w.heap.size w w':=by
 obtain⟨A,c,rfl,_⟩:=id hv;obtain⟨_,hcap,hlen,hel⟩:=hv.at;have Hel:=Lib.hid hel;have Hv:=Lib.hid hv;clear hel hv;have hq:∀x,Zdb l=x→Hid (Zdb l=x):=fun x h=>h
 by_cases hb:400<l.length
 ·have Hq:=hq 12 (by simp[Zdb,hb]);clear hq
  go_enter Tryz.func188,Tryz.ntmps188
  go_wp2;go_ret;exact⟨Zaj Hq.out.symm,Below.refl _ _⟩
 have hq':Hid (Zdb l=if (List.range l.length).any (Zhn l)then 12 else 0):=by
  show _=_;simp only[Zdb,if_neg hb]
 clear hq
 go_enter Tryz.func188,Tryz.ntmps188
 go_wp2
 go_loopw [10] (fun i wr=>∃k:Nat,k≤l.length∧i=.int .i64 k∧Hid (∀j,j<k→Zhn l j=false)∧Below w.heap.size w wr) (fun i _=>l.length-(intOf i).toNat)
 case atStart=>exact⟨0,Nat.zero_le _,rfl,fun j hj=>by omega,Below.refl _ _⟩
 case round =>
  obtain⟨k,hk,rfl,hok,hbl⟩:=hrel
  by_cases hlt:k<l.length
  ·obtain⟨b0,o0,d,rfl,e0,e1,e2,hd⟩:=Hel.out k hlt;obtain⟨dA,dc,rfl,_⟩:=id hd;have c0:=Zaa hbl _ _ e0;have c1:=Zaa hbl _ _ e1;have c2:=Zaa hbl _ _ e2;have Hsub:=Lib.hid ((Hv.out.take (k:=k) (by omega)).mono RSlot.mono (Zaa hbl));have Hbad:=Lib.hid (Ztp hlt);have hkc:k≤c:=by omega
   have hkc':(k:Int)≤(c:Int):=by omega
   clear e0 e1 e2 hd;cases ht:(Zf7 l[k].author l[k].round l[k].digest.length != 0)
   rotate_left
   ·rw[ht,Bool.true_or]at Hbad;go_wp2;refine Za7 _ _ _ (fun W=>(Code.region _ _ _).wp _ _ _ W) (fun W hb1 hsz hbw=>?_);have hbl2:Below w.heap.size w W:=hbl.trans (hbw.mono hbl.size)
    refine Zcg (fun w'=>Below W.heap.size W w') [(0,true),(1,false),(2,true),(3,true),(4,true),(5,true),(6,true),(7,true),(8,true),(9,true),(10,true),(11,false),(12,true),(13,true)] (by kernel_rfl) (by kernel_rfl) (fun _ _ d _ _ h=>by cases d<;>exact h) rfl (by kernel_rfl) ?_ ?_
    ·exact Zad _
    intro W1 hS
    repeat((first|refine Zbc rfl rfl ⟨_,fun w' hS=>by(have hq:=hb1.kept hS;have h0:=hq.cell 0;have h1:=hq.cell 1;have h2:=hq.cell 2;simp at h0 h1 h2;go_simp;exact rfl),?_⟩|refine Zbh (by assumption) rfl rfl ?_);simp only[sx])
    refine Zd0 rfl rfl fun K hK=>?_
    try simp only[sy]
    go_simp;refine(Zej _ _ _ _ _ _).mono ?_;rintro e w1 ⟨rfl,hb1'⟩;refine hK.out _ _ (hS.trans (hb1'.mono hS.size)) fun hS=>?_
    clear hK K
    try simp only[sx]
    repeat((first|refine Zbc rfl rfl ⟨_,fun w' hS=>by(skip;go_simp;exact rfl),?_⟩|refine Zbh (by assumption) rfl rfl ?_);simp only[sx])
    refine Zen ?_;go_wp2;go_ret;exact⟨Zaj (by rw[hq'.out,Zb7 hlt Hbad.out];rfl),hbl2.trans (hS.mono hbl2.size)⟩
   ·rw[ht,Bool.false_or]at Hbad;cases ht2:decide (0≤Zb1 (l.take k) l[k].author l[k].round)
    all_goals
     rw[ht2]at Hbad;go_wp2;refine Za7 _ _ _ (fun W=>(Code.region _ _ _).wp _ _ _ W) (fun W hb1 hsz hbw=>?_);have hbl2:Below w.heap.size w W:=hbl.trans (hbw.mono hbl.size)
     refine Zcg (fun w'=>Below W.heap.size W w') [(0,true),(1,false),(2,true),(3,true),(4,true),(5,true),(6,true),(7,true),(8,true),(9,true),(10,true),(11,false),(12,true),(13,true)] (by kernel_rfl) (by kernel_rfl) (fun _ _ d _ _ h=>by cases d<;>exact h) rfl (by kernel_rfl) ?_ ?_
     ·exact Zad _
     intro W1 hS
     repeat((first|refine Zbc rfl rfl ⟨_,fun w' hS=>by(have hq:=hb1.kept hS;have h0:=hq.cell 0;have h1:=hq.cell 1;have h2:=hq.cell 2;simp at h0 h1 h2;go_simp;exact rfl),?_⟩|refine Zbh (by assumption) rfl rfl ?_);simp only[sx])
     refine Zd0 rfl rfl fun K hK=>?_
     try simp only[sy]
     go_simp;refine(Zej _ _ _ _ _ _).mono ?_;rintro e w1 ⟨rfl,hb1'⟩;refine hK.out _ _ (hS.trans (hb1'.mono hS.size)) fun hS=>?_
     clear hK K
     try simp only[sx]
     repeat((first|refine Zbc rfl rfl ⟨_,fun w' hS=>by(have hq:=hb1.kept hS;have h0:=hq.cell 0;have h1:=hq.cell 1;have h2:=hq.cell 2;simp at h0 h1 h2;go_simp;exact rfl),?_⟩|refine Zbh (by assumption) rfl rfl ?_);simp only[sx])
     refine Zd0 rfl rfl fun K hK=>?_
     try simp only[sy]
     go_simp;refine(Zrs _ (l.take k) _ _ _ (Hsub.out.mono RSlot.mono (Zaa (hbw.trans (hS.mono (by omega)))))).mono ?_;rintro e w' ⟨rfl,hb2'⟩;refine hK.out _ _ (hS.trans (hb2'.mono hS.size)) fun hS=>?_
     clear hK K
     try simp only[sx]
     repeat((first|refine Zbc rfl rfl ⟨_,fun w' hS=>by(skip;go_simp;exact rfl),?_⟩|refine Zbh (by assumption) rfl rfl ?_);simp only[sx])
     refine Zen ?_;go_wp2
    ·go_roundw
     case rel=>exact⟨k+1,by omega,by go_num,upto_succ hok.out Hbad.out,hbl2.trans (hS.mono hbl2.size)⟩
     case measure=>simp[intOf];omega
    ·go_ret;exact⟨Zaj (by rw[hq'.out,Zb7 hlt Hbad.out];rfl),hbl2.trans (hS.mono hbl2.size)⟩
  ·go_wp2;go_ret;exact⟨Zaj (by rw[hq'.out,Zdo (fun j hj=>hok.out j (by omega))];rfl),hbl⟩
theorem Zbo{fn:Func}{p q u:Tmp}{n:Nat}{tmps:Array Value}(h:fn.results=#[.tmp q,.cell p t,.tmp u])(hp:tmps.getD p undef=.pointer (some ⟨g,0,none⟩))(hagg:(isAgg t).run P w=.ok true w)(hi:(P.info? t).map (·.size)=some n)(hb:Blk w g te cur)(hn:cur.size=n) :
 (results fn tmps).run P w=.ok (.tuple #[tmps.getD q undef,.agg cur,tmps.getD u undef]) w:=by
 have:=Zdc (P:=P) hagg hi hb (o:=0) (by omega);rw[List.drop_zero,List.take_of_length_le (by simp[hn])]at this;have hp':tmps[p]?.getD undef=.pointer (some ⟨g,0,none⟩):=by simpa using hp
 simp only[results,h];simp[Sem.run_bind,Result.andThen,hp',asAddr,this]
def Zcj(h:Hdr):Slot:=⟨h.author,h.round,hD h⟩
def Ze2(l:List Slot)(h:Hdr):Int:=if Zdb l≠0 then Zdb l else if hF h≠0 then hF h else if 0≤Zb1 l h.author h.round then(match l[(Zb1 l h.author h.round).toNat]? with|some s=>if s.digest==hD h then 0 else 7|none=>7)else if 400≤l.length then 6 else 0
def Zc4(l:List Slot)(h:Hdr):List Slot:=if Ze2 l h=0 then(if 0≤Zb1 l h.author h.round then l else l++[Zcj h])else []
def Zcy(l:List Slot)(h:Hdr):Slot:=if Ze2 l h=0 then Zcj h else⟨0,0,[]⟩
theorem Zt9{l:List Slot}(h:Zdb l=0):l.length≤400:=by
 unfold Zdb at h;split at h
 ·cases h
 ·omega
theorem Zos(l:List Slot)(au ro:Int):Zb1 l au ro= -1∨∃k:Nat,∃_:k<l.length,Zb1 l au ro=k:=by
 unfold Zb1;split
 ·rename_i i h;exact .inr ⟨i,(List.findIdx?_eq_some_iff_getElem.1 h).1,rfl⟩
 ·exact .inl rfl
structure Bat where
 author:Int
 number:Int
 txs:List ByteArray
abbrev Slt:=Slot
structure Msg where
 src:Int
 dst:Int
 kind:Int
 bat:Bat
 hdr:Hdr
 slt:Slt
 crt:Crt
 round:Int
def msgC(m:Msg)(vt vb vp vd cb cp cv:Value):Array Value:=#[.int .i64 m.src,.int .i64 m.dst,.int .i64 m.kind,.int .i64 m.bat.author,.int .i64 m.bat.number,vt,.int .i64 m.hdr.author,.int .i64 m.hdr.round,vb,vp,.int .i64 m.slt.author,.int .i64 m.slt.round,vd,.int .i64 m.crt.hdr.author,.int .i64 m.crt.hdr.round,cb,cp,cv,.int .i64 m.round]
structure RMsg (h:View) (m:Msg) (vt vb vp vd cb cp cv:Value):Prop where
 txs:RTexts h vt m.bat.txs
 bats:RDigs h vb m.hdr.batches
 pars:RDigs h vp m.hdr.parents
 dig:Zao h vd m.slt.digest
 cbats:RDigs h cb m.crt.hdr.batches
 cpars:RDigs h cp m.crt.hdr.parents
 vots:RIs h cv m.crt.voters
theorem RMsg.mono{h':View}{m:Msg}{vt vb vp vd cb cp cv:Value}(r:RMsg h m vt vb vp vd cb cp cv)(hle:VLe h h'):RMsg h' m vt vb vp vd cb cp cv :=
 ⟨r.txs.mono hle,r.bats.mono RDig.mono hle,r.pars.mono RDig.mono hle,r.dig.mono hle,r.cbats.mono RDig.mono hle,r.cpars.mono RDig.mono hle,r.vots.mono hle⟩
def Zec(a r:Int)(b p:List (List UInt8)):Bool:=decide (a=0∧r=0∧b.length=0∧p.length=0)
def Zlr(x:Bat):Bool:=decide (x.author≠0∨x.number≠0∨0<x.txs.length)
def Zkh(x:Slt):Bool:=decide (x.author≠0∨x.round≠0∨0<x.digest.length)
def Zlc(x:Crt):Bool:= !Zec x.hdr.author x.hdr.round x.hdr.batches x.hdr.parents||decide (0<x.voters.length)
def Zd7(m:Msg):Int :=
 if m.kind=1 then Zcq m.bat.author m.bat.number m.bat.txs else if m.kind=2 then Zb3 m.hdr.author m.hdr.round m.hdr.batches m.hdr.parents else if m.kind=3 then Zf7 m.slt.author m.slt.round m.slt.digest.length
 else if m.kind=4 then Zg4 m.crt.hdr.author m.crt.hdr.round m.crt.hdr.batches m.crt.hdr.parents m.crt.voters else if inB m.round 1 1048576 then 0 else 2
def Zk5(m:Msg):Bool :=
 Zlr m.bat&&decide (m.kind≠1)|| !Zec m.hdr.author m.hdr.round m.hdr.batches m.hdr.parents&&decide (m.kind≠2)||Zkh m.slt&&decide (m.kind≠3)||Zlc m.crt&&decide (m.kind≠4)||decide (m.round≠0)&&decide (m.kind≠5)
def msgF(m:Msg):Int :=
 if inB m.src 0 3&&inB m.dst 0 3 then(if inB m.kind 1 5 then(if Zd7 m≠0 then Zd7 m else if Zk5 m then 4 else 0)else 3)else 2
theorem RMsg.forms{m:Msg}{vt vb vp vd cb cp cv:Value}(r:RMsg h m vt vb vp vd cb cp cv):(∃A c,vt=.slice A m.bat.txs.length c)∧(∃A c,vb=.slice A m.hdr.batches.length c)∧(∃A c,vp=.slice A m.hdr.parents.length c)∧(∃A c,vd=.slice A m.slt.digest.length c) ∧
 (∃A c,cb=.slice A m.crt.hdr.batches.length c)∧(∃A c,cp=.slice A m.crt.hdr.parents.length c)∧(∃A c,cv=.slice A m.crt.voters.length c):=by
 obtain⟨a1,a2,e1,_⟩:=r.txs;obtain⟨b1,b2,e2,_⟩:=r.bats;obtain⟨c1,c2,e3,_⟩:=r.pars;obtain⟨d1,d2,e4,_⟩:=r.dig;obtain⟨f1,f2,e5,_⟩:=r.cbats;obtain⟨g1,g2,e6,_⟩:=r.cpars;obtain⟨h1,h2,e7,_⟩:=r.vots;exact⟨⟨_,_,e1⟩,⟨_,_,e2⟩,⟨_,_,e3⟩,⟨_,_,e4⟩,⟨_,_,e5⟩,⟨_,_,e6⟩,⟨_,_,e7⟩⟩
theorem Zjh(a r:Int)(vb vp:Value)(b p:List (List UInt8))(w:World)(hb:RDigs w.cell? vb b)(hp:RDigs w.cell? vp p) :
 Calls Tryz.prog 106 #[.agg #[.int .i64 a,.int .i64 r,vb,vp]] w fun e w'=>e=.returned (.bool (Zec a r b p))∧Below w.heap.size w w':=by
 obtain⟨bA,bc,rfl,_⟩:=id hb;obtain⟨pA,pc,rfl,_⟩:=id hp;have hl1:b.length*24≤140737488355328:=by obtain⟨A,c,_,_,_,h,_⟩:=hb;exact h
 have hl2:p.length*24≤140737488355328:=by obtain⟨A,c,_,_,_,h,_⟩:=hp;exact h
 clear hb hp
 have fin:∀x,(a=0∧r=0∧b.length=0∧p.length=0↔x=true)→Hid (Zec a r b p=x):=fun x h=>by
  show _=_;unfold Zec;cases x
  ·exact decide_eq_false (fun h'=>absurd (h.1 h') (by simp))
  ·exact decide_eq_true (by simpa using h)
 generalize Zec a r b p=Z at fin⊢;generalize b.length=lb at fin hl1⊢;generalize p.length=lp at fin hl2⊢
 by_cases h1:a=0
 ·by_cases h2:r=0
  ·by_cases h3:lb+lp=0
   ·have H:=fin true (by simp[*];omega);have h3':(lb:Int)+lp=0:=by omega
    clear fin;subst h1 h2
    go_enter Tryz.func106,Tryz.ntmps106
    go_wp2;go_ret
    exact⟨Zap (by rw[H.out];try simp[h3']),by repeat(first
 |assumption
 |exact Below.refl _ _
 |refine Below.drew ?_
 |(refine Below.alloc ?_ ?sa _;(case sa=>first|omega|(simp;done)|(simp;omega)))
 |(refine Below.setCell ?_ ?sa _;(case sa=>first|(dsimp only;omega)|(simp;done)|(simp;omega))))⟩
   ·have H:=fin false (by simp[*];omega);have h3':¬(lb:Int)+lp=0:=by omega
    clear fin;subst h1 h2
    go_enter Tryz.func106,Tryz.ntmps106
    go_wp2;go_ret
    exact⟨Zap (by rw[H.out];try simp[h3']),by repeat(first
 |assumption
 |exact Below.refl _ _
 |refine Below.drew ?_
 |(refine Below.alloc ?_ ?sa _;(case sa=>first|omega|(simp;done)|(simp;omega)))
 |(refine Below.setCell ?_ ?sa _;(case sa=>first|(dsimp only;omega)|(simp;done)|(simp;omega))))⟩
  ·have H:=fin false (by simp[*]);clear fin;subst h1
   go_enter Tryz.func106,Tryz.ntmps106
   go_wp2;go_ret
   exact⟨Zap (by rw[H.out];try simp[h2]),by repeat(first
 |assumption
 |exact Below.refl _ _
 |refine Below.drew ?_
 |(refine Below.alloc ?_ ?sa _;(case sa=>first|omega|(simp;done)|(simp;omega)))
 |(refine Below.setCell ?_ ?sa _;(case sa=>first|(dsimp only;omega)|(simp;done)|(simp;omega))))⟩
 ·have H:=fin false (by simp[*]);clear fin
  go_enter Tryz.func106,Tryz.ntmps106
  go_wp2;go_ret
  exact⟨Zap (by rw[H.out];try simp[h1]),by repeat(first
 |assumption
 |exact Below.refl _ _
 |refine Below.drew ?_
 |(refine Below.alloc ?_ ?sa _;(case sa=>first|omega|(simp;done)|(simp;omega)))
 |(refine Below.setCell ?_ ?sa _;(case sa=>first|(dsimp only;omega)|(simp;done)|(simp;omega))))⟩
def Zno(m:Msg):Bool:= !Zlr m.bat&&Zec m.hdr.author m.hdr.round m.hdr.batches m.hdr.parents&& !Zkh m.slt&& !Zlc m.crt&&decide (m.round=0)
theorem Zh7(m:Msg)(vt vb vp vd cb cp cv:Value)(w:World)(r:RMsg w.cell? m vt vb vp vd cb cp cv) :
 Calls Tryz.prog 81 #[.agg (msgC m vt vb vp vd cb cp cv)] w fun e w'=>e=.returned (.bool (Zno m))∧Below w.heap.size w w':=by
 obtain⟨⟨tA,tc,rfl⟩,⟨bA,bc,rfl⟩,⟨pA,pc,rfl⟩,⟨dA,dc,rfl⟩,⟨cA,cc,rfl⟩,⟨qA,qc,rfl⟩,⟨vA,vc,rfl⟩⟩:=r.forms;obtain⟨Q,hQ⟩:∃Q,Hid (Zno m=Q):=⟨_,rfl⟩;obtain⟨N,hN⟩:∃B,Hid (Zec m.hdr.author m.hdr.round m.hdr.batches m.hdr.parents=B):=⟨_,rfl⟩;obtain⟨N2,hN2⟩:∃B,Hid (Zec m.crt.hdr.author m.crt.hdr.round m.crt.hdr.batches m.crt.hdr.parents=B):=⟨_,rfl⟩
 have HQ:Hid (Q=(!decide (m.bat.author≠0∨m.bat.number≠0∨0<m.bat.txs.length)&&N&& !decide (m.slt.author≠0∨m.slt.round≠0∨0<m.slt.digest.length)&& !(!N2||decide (0<m.crt.voters.length))&&decide (m.round=0))):=by
  show _=_;rw[←hQ.out,←hN.out,←hN2.out];rfl
 rw[hQ.out];clear hQ;unfold msgC;generalize m.bat.author=x1 at HQ⊢;generalize m.bat.number=x2 at HQ⊢;have hb1:=r.bats;have hb2:=r.pars;have hb3:=r.cbats;have hb4:=r.cpars;clear r;generalize m.bat.txs.length=x3 at HQ⊢;generalize m.slt.author=x4 at HQ⊢;generalize m.slt.round=x5 at HQ⊢;generalize m.slt.digest.length=x6 at HQ⊢;generalize m.crt.voters.length=x7 at HQ⊢;generalize m.round=x8 at HQ⊢
 by_cases h1:x1=0
 rotate_left
 ·go_enter Tryz.func81,Tryz.ntmps81
  go_wp2;go_ret
  exact⟨Zap (by rw[HQ.out];simp[h1]),by repeat(first
 |assumption
 |exact Below.refl _ _
 |refine Below.drew ?_
 |(refine Below.alloc ?_ ?sa _;(case sa=>first|omega|(simp;done)|(simp;omega)))
 |(refine Below.setCell ?_ ?sa _;(case sa=>first|(dsimp only;omega)|(simp;done)|(simp;omega))))⟩
 by_cases h2:x2=0
 rotate_left
 ·subst h1
  go_enter Tryz.func81,Tryz.ntmps81
  go_wp2;go_ret
  exact⟨Zap (by rw[HQ.out];simp[h2]),by repeat(first
 |assumption
 |exact Below.refl _ _
 |refine Below.drew ?_
 |(refine Below.alloc ?_ ?sa _;(case sa=>first|omega|(simp;done)|(simp;omega)))
 |(refine Below.setCell ?_ ?sa _;(case sa=>first|(dsimp only;omega)|(simp;done)|(simp;omega))))⟩
 by_cases h3:x3=0
 rotate_left
 ·have h3':0<x3:=by omega
  subst h1 h2
  go_enter Tryz.func81,Tryz.ntmps81
  go_wp2;go_ret
  exact⟨Zap (by rw[HQ.out];simp[h3']),by repeat(first
 |assumption
 |exact Below.refl _ _
 |refine Below.drew ?_
 |(refine Below.alloc ?_ ?sa _;(case sa=>first|omega|(simp;done)|(simp;omega)))
 |(refine Below.setCell ?_ ?sa _;(case sa=>first|(dsimp only;omega)|(simp;done)|(simp;omega))))⟩
 subst h1 h2 h3
 go_enter Tryz.func81,Tryz.ntmps81
 go_wp2_with fail
 refine Za7 _ _ _ (fun W=>Calls Tryz.prog _ _ W _) (fun W hk hsz hbl=>?_);have hz:=hbl.size;refine(Zjh _ _ _ _ _ _ _ (hb1.mono RDig.mono (Zaa hbl)) (hb2.mono RDig.mono (Zaa hbl))).mono ?_;rintro e w1 ⟨rfl,hk1⟩;rw[hN.out];have hbl1:=hbl.trans (hk1.mono hz);have hq:=hk.kept hk1;have g10:=hq.cell 10;have g11:=hq.cell 11;have g12:=hq.cell 12;have g13:=hq.cell 13;have g14:=hq.cell 14;have g15:=hq.cell 15;have g16:=hq.cell 16;have g17:=hq.cell 17;have g18:=hq.cell 18;simp at g10 g11 g12 g13 g14 g15 g16 g17 g18;cases N
 ·go_wp2;go_ret;exact⟨Zap (by rw[HQ.out];simp),hbl1⟩
 by_cases h4:x4=0
 rotate_left
 ·go_wp2;go_ret;exact⟨Zap (by rw[HQ.out];simp[h4]),hbl1⟩
 by_cases h5:x5=0
 rotate_left
 ·subst h4;go_wp2;go_ret;exact⟨Zap (by rw[HQ.out];simp[h5]),hbl1⟩
 by_cases h6:x6=0
 rotate_left
 ·have h6':0<x6:=by omega
  subst h4 h5;go_wp2;go_ret;exact⟨Zap (by rw[HQ.out];simp[h6']),hbl1⟩
 subst h4 h5 h6
 go_wp2_with fail
 refine(Zjh _ _ _ _ _ _ _ (hb3.mono RDig.mono (Zaa hbl1)) (hb4.mono RDig.mono (Zaa hbl1))).mono ?_;rintro e w2 ⟨rfl,hk2⟩;rw[hN2.out];have hbl2:=hbl1.trans (hk2.mono hbl1.size);have hq2:=hq.kept hk2;clear g10 g11 g12 g13 g14 g15 g16 g17 g18;have g17:=hq2.cell 17;have g18:=hq2.cell 18;simp at g17 g18;cases N2
 ·go_wp2;go_ret;exact⟨Zap (by rw[HQ.out];simp),hbl2⟩
 by_cases h7:x7=0
 rotate_left
 ·have h7':0<x7:=by omega
  go_wp2;go_ret;exact⟨Zap (by rw[HQ.out];simp[h7']),hbl2⟩
 subst h7
 by_cases h8:x8=0
 ·subst h8;go_wp2;go_ret;exact⟨Zap (by rw[HQ.out];simp),hbl2⟩
 ·go_wp2;go_ret;exact⟨Zap (by rw[HQ.out];simp[h8]),hbl2⟩
structure Sign where
 node:Int
 slot:Slot
def RSign(h:View)(cs:List Value)(s:Sign):Prop:=∃d,cs=[.int .i64 s.node,.int .i64 s.slot.author,.int .i64 s.slot.round,d]∧Zao h d s.slot.digest
theorem RSign.mono:Mono RSign:=fun h h' cs x ⟨d,e,hd⟩ hle=>⟨d,e,hd.mono hle⟩
abbrev RSigns:=RSl 4 RSign 48
theorem Zny:Elem Tryz.prog 25 72 4 48:=Znz (z:=.agg #[.int .i64 0,.int .i64 0,.int .i64 0,.slice none 0 0]) Tryz.underlying25 (by kernel_rfl) rfl (by decide)
theorem RSigns.at{n:Nat}{xs:List Sign}(hr:RSigns h (.slice A n c) xs):n=xs.length∧n≤c∧n*48≤140737488355328∧∀k (hk:k<xs.length),∃b o d,A=some ⟨b,o,none⟩∧h ⟨b,o+k*4,none⟩=some (.int .i64 xs[k].node)∧h ⟨b,o+k*4+1,none⟩=some (.int .i64 xs[k].slot.author)∧h ⟨b,o+k*4+2,none⟩=some (.int .i64 xs[k].slot.round)∧h ⟨b,o+k*4+3,none⟩=some d∧Zao h d xs[k].slot.digest:=by
 obtain⟨A',c',e,h1,_,h2,_,h3⟩:=hr;injection e with e1 e2 e3;subst e1 e2 e3;refine⟨rfl,h1,h2,fun k hk=>?_⟩;obtain⟨b,o,ea,hc⟩:=h3 (by omega);obtain⟨cs,hl,hcell,d,rfl,hd⟩:=hc k hk;exact⟨b,o,d,ea,hcell 0 (by omega),hcell 1 (by omega),hcell 2 (by omega),hcell 3 (by omega),hd⟩
def Zkl(no au ro:Int)(n:Nat):Int:=if inB no 0 3 then Zf7 au ro n else 2
theorem Ze6(no au ro:Int)(s:Option Addr)(l c:Nat)(w:World):Calls Tryz.prog 97 #[.agg #[.int .i64 no,.int .i64 au,.int .i64 ro,.slice s l c]] w fun e w'=>e=.returned (.int .i64 (Zkl no au ro l))∧Below w.heap.size w w':=by
 have Hq:Hid (Zkl no au ro l=if inB no 0 3 then Zf7 au ro l else 2):=rfl
 by_cases h1:no<0
 ·go_enter Tryz.func97,Tryz.ntmps97
  go_wp2;go_ret;exact⟨Zaj (by rw[Hq.out,if_neg (by simp[inB];omega)]),Zac _ _⟩
 by_cases h2:4≤no
 ·go_enter Tryz.func97,Tryz.ntmps97
  go_wp2;go_ret;exact⟨Zaj (by rw[Hq.out,if_neg (by simp[inB];omega)]),Zac _ _⟩
 ·go_enter Tryz.func97,Tryz.ntmps97
  go_wp2_with fail
  refine(Zej _ _ _ _ _ _).mono ?_;rintro e w1 ⟨rfl,hb⟩;go_wp2;go_ret;exact⟨Zaj (by rw[Hq.out,if_pos (by simp[inB];omega)]),(Zac _ _).trans (hb.mono (by simp))⟩
def Ze9(x s:Sign):Bool:=x.node==s.node&&(x.slot.author==s.slot.author&&(x.slot.round==s.slot.round&&x.slot.digest==s.slot.digest))
def Zcc(l:List Sign)(s:Sign):Bool:=l.any fun x=>Ze9 x s
theorem Zxw{x s:Sign}(h:(x.node==s.node)=false):Ze9 x s=false:=by simp[Ze9,h]
theorem Zxv{x s:Sign}(h:(x.slot.author==s.slot.author)=false):Ze9 x s=false:=by simp[Ze9,h]
theorem Zxu{x s:Sign}(h:(x.slot.round==s.slot.round)=false):Ze9 x s=false:=by simp[Ze9,h]
theorem Zxt{x s:Sign}(h1:(x.node==s.node)=true)(h2:(x.slot.author==s.slot.author)=true)(h3:(x.slot.round==s.slot.round)=true):Ze9 x s=(x.slot.digest==s.slot.digest):=by simp[Ze9,h1,h2,h3]
theorem hasFn_any(x s:Sign)(d sd:Value)(b1:Nat)(w:World)(hblk:Blk w b1 72 #[.int .i64 s.node,.int .i64 s.slot.author,.int .i64 s.slot.round,sd])(hd:Zao w.cell? d x.slot.digest)(hsd:Zao w.cell? sd s.slot.digest) :
 Calls Tryz.prog 99 #[.agg #[.int .i64 x.node,.int .i64 x.slot.author,.int .i64 x.slot.round,d],.pointer (some ⟨b1,0,none⟩)] w fun e w'=>e=.returned (.bool (Ze9 x s))∧Below w.heap.size w w':=by
 have hbb:=Zac w (.cells #[.int .i64 x.node,.int .i64 x.slot.author,.int .i64 x.slot.round,d] 72);have hB:=hblk.kept hbb;have g0:=hB.cell 0;have g1:=hB.cell 1;have g2:=hB.cell 2;have g3:=hB.cell 3;simp at g0 g1 g2 g3;have Hd:=Lib.hid (hd.mono (Zaa hbb));have Hsd:=Lib.hid (hsd.mono (Zaa hbb));clear hblk hd hsd hB;cases t1:(x.node==s.node)
 ·have Hb:=Lib.hid (Zxw t1)
  go_enter Tryz.func99,Tryz.ntmps99
  go_wp2;go_ret;exact⟨Zap Hb.out.symm,hbb⟩
 cases t2:(x.slot.author==s.slot.author)
 ·have Hb:=Lib.hid (Zxv t2)
  go_enter Tryz.func99,Tryz.ntmps99
  go_wp2;go_ret;exact⟨Zap Hb.out.symm,hbb⟩
 cases t3:(x.slot.round==s.slot.round)
 ·have Hb:=Lib.hid (Zxu t3)
  go_enter Tryz.func99,Tryz.ntmps99
  go_wp2;go_ret;exact⟨Zap Hb.out.symm,hbb⟩
 have Hb:=Lib.hid (Zxt t1 t2 t3)
 go_enter Tryz.func99,Tryz.ntmps99
 go_wp2_with fail
 refine(Zb6 _ _ x.slot.digest s.slot.digest _ Hd.out Hsd.out).mono ?_;rintro e w' ⟨rfl,rfl⟩;go_wp2;go_ret;exact⟨Zap Hb.out.symm,hbb⟩
theorem Znw(vl:Value)(l:List Sign)(s:Sign)(sd:Value)(b1:Nat)(w:World)(hl:RSigns w.cell? vl l)(hblk:Blk w b1 72 #[.int .i64 s.node,.int .i64 s.slot.author,.int .i64 s.slot.round,sd])(hsd:Zao w.cell? sd s.slot.digest) :
 Calls Tryz.prog 131 #[vl,.func (.func 99) #[] #[.pointer (some ⟨b1,0,none⟩)]] w fun e w'=>∃i:Int,e=.returned (.int .i64 i)∧decide (0≤i)=Zcc l s∧Below w.heap.size w w':=by
 obtain⟨A,c,rfl,_⟩:=id hl;obtain⟨_,hn1,hn2,hel⟩:=hl.at;have Hel:=Lib.hid hel;have Hsd:=Lib.hid hsd;clear hl hel hsd
 go_enter Tryz.func131,Tryz.ntmps131
 go_wp2
 go_loopw [8] (fun i wr=>∃k:Nat,k≤l.length∧i=.int .i64 k∧Hid (∀j (hj:j<l.length),j<k→Ze9 l[j] s=false)∧Below w.heap.size w wr) (fun i _=>l.length-(intOf i).toNat)
 case atStart=>exact⟨0,Nat.zero_le _,rfl,fun j _ hj=>by omega,Below.refl _ _⟩
 case round =>
  obtain⟨k,hk,rfl,hno,hbl⟩:=hrel
  by_cases hlt:k<l.length
  ·obtain⟨b0,o0,d,rfl,q0,q1,q2,q3,hd⟩:=Hel.out k hlt;have c0:=Zaa hbl _ _ q0;have c1:=Zaa hbl _ _ q1;have c2:=Zaa hbl _ _ q2;have c3:=Zaa hbl _ _ q3;have Hd:=Lib.hid (hd.mono (Zaa hbl));clear hd q0 q1 q2 q3
   go_wp2_with fail
   refine(hasFn_any l[k] s d sd b1 _ (hblk.kept hbl) Hd.out (Hsd.out.mono (Zaa hbl))).mono ?_;rintro e w1 ⟨rfl,hb1⟩;have hbl1:=hbl.trans (hb1.mono hbl.size);cases e1:Ze9 l[k] s
   ·have Hb:=Lib.hid e1;clear e1;go_wp2;go_roundw
    case rel=>exact⟨k+1,by omega,by go_num,fun j hj hjk=>by
     by_cases e:j=k
     ·subst e;exact Hb.out
     ·exact hno.out j hj (by omega),hbl1⟩
    case measure=>simp[intOf];omega
   ·have Hb:=Lib.hid e1;clear e1;go_wp2;go_ret;exact⟨(k:Int),rfl,by rw[show Zcc l s=true from Zgn hlt Hb.out];simp,hbl1⟩
  ·go_wp2;go_ret;exact⟨-1,rfl,by rw[show Zcc l s=false from Zf3 fun j hj=>hno.out j hj (by omega)];rfl,hbl⟩
theorem Zjs(vl:Value)(l:List Sign)(s:Sign)(sd:Value)(b1:Nat)(w:World)(hl:RSigns w.cell? vl l)(hblk:Blk w b1 72 #[.int .i64 s.node,.int .i64 s.slot.author,.int .i64 s.slot.round,sd])(hsd:Zao w.cell? sd s.slot.digest) :
 Calls Tryz.prog 98 #[vl,.func (.func 99) #[] #[.pointer (some ⟨b1,0,none⟩)]] w fun e w'=>e=.returned (.bool (Zcc l s))∧Below w.heap.size w w':=by
 go_enter Tryz.func98,Tryz.ntmps98
 go_wp2_with fail
 refine(Znw vl l s sd b1 _ hl hblk hsd).mono ?_;rintro e w1 ⟨i,rfl,hi,hb⟩
 by_cases h0:0≤i
 ·have Hq:Hid (Zcc l s=true):=hi.symm.trans (decide_eq_true h0);clear hi;go_wp2;go_ret;exact⟨Zap Hq.out.symm,hb⟩
 ·have Hq:Hid (Zcc l s=false):=hi.symm.trans (decide_eq_false h0);clear hi;go_wp2;go_ret;exact⟨Zap (by rw[Hq.out];simp[h0]),hb⟩
theorem Zfu(vl:Value)(l:List Sign)(s:Sign)(sd:Value)(w:World)(hl:RSigns w.cell? vl l)(hsd:Zao w.cell? sd s.slot.digest) :
 Calls Tryz.prog 70 #[vl,.agg #[.int .i64 s.node,.int .i64 s.slot.author,.int .i64 s.slot.round,sd]] w fun e w'=>e=.returned (.bool (Zcc l s))∧Below w.heap.size w w':=by
 go_enter Tryz.func70,Tryz.ntmps70
 go_wp2_with fail
 refine Za7 _ _ _ (fun W=>Calls Tryz.prog _ _ W _) (fun W hb1 hsz hbw=>?_);refine(Zjs _ l s sd _ _ (hl.mono RSign.mono (Zaa hbw)) hb1 (hsd.mono (Zaa hbw))).mono ?_;rintro e w1 ⟨rfl,hb⟩;go_wp2;go_ret;exact⟨rfl,hbw.trans (hb.mono (by omega))⟩
def Zho(l:List Sign)(i:Nat):Bool:=match l[i]? with|some s=>Zkl s.node s.slot.author s.slot.round s.slot.digest.length != 0||Zcc (l.take i) s|none=>false
def Zef(l:List Sign):Int:=if (List.range l.length).any (Zho l)then 12 else 0
theorem Ztq{l:List Sign}(hk:k<l.length):Zho l k=(Zkl l[k].node l[k].slot.author l[k].slot.round l[k].slot.digest.length != 0||Zcc (l.take k) l[k]):=by
 unfold Zho;rw[List.getElem?_eq_getElem hk]
theorem Zfv(v:Value)(l:List Sign)(w:World)(hv:RSigns w.cell? v l) :
 Calls Tryz.prog 67 #[v] w fun e w'=>e=.returned (.int .i64 (Zef l))∧Below w.heap.size w w':=by
 obtain⟨A,c,rfl,_⟩:=id hv;obtain⟨_,hcap,hlen,hel⟩:=hv.at;have Hel:=Lib.hid hel;have Hv:=Lib.hid hv;clear hel hv;have hq':Hid (Zef l=if (List.range l.length).any (Zho l)then 12 else 0):=rfl
 go_enter Tryz.func67,Tryz.ntmps67
 go_wp2
 go_loopw [7] (fun i wr=>∃k:Nat,k≤l.length∧i=.int .i64 k∧Hid (∀j,j<k→Zho l j=false)∧Below w.heap.size w wr) (fun i _=>l.length-(intOf i).toNat)
 case atStart=>exact⟨0,Nat.zero_le _,rfl,fun j hj=>by omega,Below.refl _ _⟩
 case round =>
  obtain⟨k,hk,rfl,hok,hbl⟩:=hrel
  by_cases hlt:k<l.length
  ·obtain⟨b0,o0,d,rfl,e0,e1,e2,e3,hd⟩:=Hel.out k hlt;obtain⟨dA,dc,rfl,_⟩:=id hd;have c0:=Zaa hbl _ _ e0;have c1:=Zaa hbl _ _ e1;have c2:=Zaa hbl _ _ e2;have c3:=Zaa hbl _ _ e3;have Hd:=Lib.hid (hd.mono (Zaa hbl));have Hsub:=Lib.hid ((Hv.out.take (k:=k) (by omega)).mono RSign.mono (Zaa hbl));have Hbad:=Lib.hid (Ztq hlt);have hkc:k≤c:=by omega
   have hkc':(k:Int)≤(c:Int):=by omega
   clear e0 e1 e2 e3 hd;cases ht:(Zkl l[k].node l[k].slot.author l[k].slot.round l[k].slot.digest.length != 0)
   rotate_left
   ·rw[ht,Bool.true_or]at Hbad;go_wp2;refine Za7 _ _ _ (fun W=>(Code.region _ _ _).wp _ _ _ W) (fun W hb1 hsz hbw=>?_);have hbl2:Below w.heap.size w W:=hbl.trans (hbw.mono hbl.size)
    refine Zcg (fun w'=>Below W.heap.size W w') [(0,true),(1,false),(2,true),(3,true),(4,true),(5,true),(6,true),(7,true),(8,false),(9,true)] (by kernel_rfl) (by kernel_rfl) (fun _ _ d _ _ h=>by cases d<;>exact h) rfl (by kernel_rfl) ?_ ?_
    ·exact Zad _
    intro W1 hS
    repeat((first|refine Zbc rfl rfl ⟨_,fun w' hS=>by(have hq:=hb1.kept hS;have h0:=hq.cell 0;have h1:=hq.cell 1;have h2:=hq.cell 2;have h3:=hq.cell 3;simp at h0 h1 h2 h3;go_simp;exact rfl),?_⟩|refine Zbh (by assumption) rfl rfl ?_);simp only[sx])
    refine Zd0 rfl rfl fun K hK=>?_
    try simp only[sy]
    go_simp;refine(Ze6 _ _ _ _ _ _ _).mono ?_;rintro e w1 ⟨rfl,hb1'⟩;refine hK.out _ _ (hS.trans (hb1'.mono hS.size)) fun hS=>?_
    clear hK K
    try simp only[sx]
    repeat((first|refine Zbc rfl rfl ⟨_,fun w' hS=>by(skip;go_simp;exact rfl),?_⟩|refine Zbh (by assumption) rfl rfl ?_);simp only[sx])
    refine Zen ?_;go_wp2;go_ret;exact⟨Zaj (by rw[hq'.out,Zb7 hlt Hbad.out];rfl),hbl2.trans (hS.mono hbl2.size)⟩
   ·rw[ht,Bool.false_or]at Hbad;cases ht2:Zcc (l.take k) l[k]
    all_goals
     rw[ht2]at Hbad;go_wp2;refine Za7 _ _ _ (fun W=>(Code.region _ _ _).wp _ _ _ W) (fun W hb1 hsz hbw=>?_);have hbl2:Below w.heap.size w W:=hbl.trans (hbw.mono hbl.size)
     refine Zcg (fun w'=>Below W.heap.size W w') [(0,true),(1,false),(2,true),(3,true),(4,true),(5,true),(6,true),(7,true),(8,false),(9,true)] (by kernel_rfl) (by kernel_rfl) (fun _ _ d _ _ h=>by cases d<;>exact h) rfl (by kernel_rfl) ?_ ?_
     ·exact Zad _
     intro W1 hS
     repeat((first|refine Zbc rfl rfl ⟨_,fun w' hS=>by(have hq:=hb1.kept hS;have h0:=hq.cell 0;have h1:=hq.cell 1;have h2:=hq.cell 2;have h3:=hq.cell 3;simp at h0 h1 h2 h3;go_simp;exact rfl),?_⟩|refine Zbh (by assumption) rfl rfl ?_);simp only[sx])
     refine Zd0 rfl rfl fun K hK=>?_
     try simp only[sy]
     go_simp;refine(Ze6 _ _ _ _ _ _ _).mono ?_;rintro e w1 ⟨rfl,hb1'⟩;refine hK.out _ _ (hS.trans (hb1'.mono hS.size)) fun hS=>?_
     clear hK K
     try simp only[sx]
     repeat((first|refine Zbc rfl rfl ⟨_,fun w' hS=>by(have hq:=hb1.kept hS;have h0:=hq.cell 0;have h1:=hq.cell 1;have h2:=hq.cell 2;have h3:=hq.cell 3;simp at h0 h1 h2 h3;go_simp;exact rfl),?_⟩|refine Zbh (by assumption) rfl rfl ?_);simp only[sx])
     refine Zd0 rfl rfl fun K hK=>?_
     try simp only[sy]
     go_simp;refine(Zfu _ (l.take k) l[k] _ _ (Hsub.out.mono RSign.mono (Zaa (hbw.trans (hS.mono (by omega))))) (Hd.out.mono (Zaa (hbw.trans (hS.mono (by omega)))))).mono ?_;rintro e w2 ⟨rfl,hb2⟩;simp only[ht2];refine hK.out _ _ (hS.trans (hb2.mono hS.size)) fun hS=>?_
     clear hK K
     try simp only[sx]
     repeat((first|refine Zbc rfl rfl ⟨_,fun w' hS=>by(skip;go_simp;exact rfl),?_⟩|refine Zbh (by assumption) rfl rfl ?_);simp only[sx])
     refine Zen ?_;go_wp2
    ·go_roundw
     case rel=>exact⟨k+1,by omega,by go_num,upto_succ hok.out Hbad.out,hbl2.trans (hS.mono hbl2.size)⟩
     case measure=>simp[intOf];omega
    ·go_ret;exact⟨Zaj (by rw[hq'.out,Zb7 hlt Hbad.out];rfl),hbl2.trans (hS.mono hbl2.size)⟩
  ·go_wp2;go_ret;exact⟨Zaj (by rw[hq'.out,Zdo (fun j hj=>hok.out j (by omega))];rfl),hbl⟩
theorem Zai{n:Nat}(hgd:o.guard=none)(ho:o.op=.store t x y)(hx:a.eval x=.pointer (some ⟨g,off,none⟩))(hy:a.eval y=v)(hi:(P.info? t).map (·.size)=some n)(hn:v.cells.size=n)(hb:Blk w g te cs)(hfit:off+n≤cs.size)(h1:(v.cells.toList.all fun u=>u.oneCell')=true)(h:∀w',Blk w' g te (cs.toList.take off++(v.cells.toList++cs.toList.drop (off+n))).toArray→w.grownBy w' (some g)→wpList P ops Q rest (a.put o.dst undef) w'):wpList P ops Q (o::rest) a w :=
 wpList_plain hgd fun _ hK=>Zav ho hx hy hi hn hb hfit h1 fun w' h2 h3=>hK _ _ (h w' h2 h3)
theorem Zko(no au ro:Int)(d:Value)(ds:List UInt8)(w:World)(hd:Zao w.cell? d ds) :
 Calls Tryz.prog 186 #[.agg #[.int .i64 no,.int .i64 au,.int .i64 ro,d]] w fun e w'=>∃d',e=.returned (.agg #[.int .i64 no,.int .i64 au,.int .i64 ro,d'])∧Below w.heap.size w w'∧OwnB w' w.heap.size d' ds:=by
 obtain⟨A0,c0,rfl,_⟩:=id hd
 go_enter Tryz.func186,Tryz.ntmps186
 go_wp2_with fail
 refine Za6 _ _ _ _ _ (fun W=>Calls Tryz.prog _ _ W _) (fun W hb1 hb2 hsz hbl=>?_);refine(Zci _ ds _ (hd.mono (Zaa hbl))).mono ?_;rintro e w1 ⟨d',rfl,hk1,o1⟩;obtain⟨A1,c1,rfl⟩:=o1.form;have hb1:=hb1.kept hk1;have hb2:=hb2.kept hk1;have hbl1:=hbl.trans (hk1.mono hbl.size);have hz1:=hk1.size
 go_wp2_with (refine Zai (n:=1) rfl rfl rfl rfl (by kernel_rfl) rfl hb1 (by simp) rfl ?_)
 intro w2 hB2 hg2;have hB2:Blk w2 w.heap.size 72 #[.int .i64 no,.int .i64 au,.int .i64 ro,.slice A1 ds.length c1]:=hB2;have hb3:=hb2.grown hg2 (by simp);have o2:=o1.grown hg2 (by omega);have hbl2:=Zab hbl1 (by omega) hg2 (by intro k e;injection e;omega);have g0:=hB2.cell 0;have g1:=hB2.cell 1;have g2:=hB2.cell 2;have g3:=hB2.cell 3;simp at g0 g1 g2 g3
 go_wp2_with (refine Zj 4 hb3 ?_)
 intro w3 hB3 hg3;have o3:=o2.grown hg3 (by omega);have hz2:=hbl2.size;have hbl3:=Zab hbl2 hz2 hg3 (by intro k e;injection e;omega);go_wp2;refine bodyPost_ret (Zay rfl rfl (by kernel_rfl) (by kernel_rfl) hB3 rfl) rfl ?_;exact⟨_,rfl,hbl3,o3.base (by omega)⟩
def addE(l:List Sign)(s:Sign):Int:=if Zef l≠0 then Zef l else Zkl s.node s.slot.author s.slot.round s.slot.digest.length
def addL(l:List Sign)(s:Sign):List Sign:=if addE l s≠0 then []else if Zcc l s then l else l++[s]
theorem RSl.nil(sz:Nat)(R:View→List Value→α→Prop)(bs:Nat)(h:View):RSl sz R bs h (.slice none 0 0) []:=⟨none,0,rfl,Nat.le_refl _,Nat.zero_le _,by simp,fun _=>rfl,fun h=>by simp at h⟩
def Zjp(m:Msg):Msg :=
 if m.kind=1 then {m with bat:=⟨0,0,[]⟩ } else if m.kind=2 then {m with hdr:=⟨0,0,[],[]⟩ } else if m.kind=3 then {m with slt:=⟨0,0,[]⟩ }
 else if m.kind=4 then {m with crt:=⟨⟨0,0,[],[]⟩,[]⟩ } else {m with round:=0 }
theorem Zge(m:Msg)(h:m.kind=1∨m.kind=2∨m.kind=3∨m.kind=4∨m.kind=5):Zno (Zjp m)= !Zk5 m:=by
 unfold Zno Zk5 Zjp
 rcases h with h|h|h|h|h<;>simp[h,Zlr,Zkh,Zlc,Zec]<;>(try simp only[Bool.and_assoc])
theorem Zda(hb:Below w.heap.size w W):VLe w.cell? (View.but W.cell? (some w.heap.size)):=Zei hb (Nat.le_refl _)
theorem Zzy(m:Msg)(hk:¬(m.kind=1∨m.kind=2∨m.kind=3∨m.kind=4∨m.kind=5))(vt vb vp vd cb cp cv:Value)(w:World)(r:RMsg w.cell? m vt vb vp vd cb cp cv)(hs:∀s∈m.bat.txs,s.size≤140737488355328) :
 Calls Tryz.prog 49 #[.agg (msgC m vt vb vp vd cb cp cv)] w fun e w'=>e=.returned (.int .i64 (msgF m))∧Below w.heap.size w w':=by
 obtain⟨⟨tA,tc,rfl⟩,⟨bA,bc,rfl⟩,⟨pA,pc,rfl⟩,⟨dA,dc,rfl⟩,⟨cA,cc,rfl⟩,⟨qA,qc,rfl⟩,⟨vA,vc,rfl⟩⟩:=r.forms;have Hs:=Lib.hid hs;clear hs;obtain⟨Q,hQ⟩:∃Q,Hid (msgF m=Q):=⟨_,rfl⟩;rw[hQ.out];cases ha:inB m.src 0 3
 ·have HQ:Hid (Q=2):=hQ.out.symm.trans (by simp[msgF,ha]);unfold msgC
  go_enter Tryz.func49,Tryz.ntmps49
  go_wp2_with (first|(go_at_call 62;refine(Za4 _ _).mono ?_;rintro e w' ⟨rfl,rfl⟩)|fail)
  go_ret;exact⟨Zaj HQ.out.symm,Zac _ _⟩
 cases hb:inB m.dst 0 3
 ·have HQ:Hid (Q=2):=hQ.out.symm.trans (by simp[msgF,ha,hb]);unfold msgC
  go_enter Tryz.func49,Tryz.ntmps49
  go_wp2_with (first|(go_at_call 62;refine(Za4 _ _).mono ?_;rintro e w' ⟨rfl,rfl⟩)|fail)
  go_ret;exact⟨Zaj HQ.out.symm,Zac _ _⟩
 obtain⟨E,hE⟩:∃E,Hid (Zd7 m=E):=⟨_,rfl⟩;obtain⟨X,hX⟩:∃X,Hid (Zk5 m=X):=⟨_,rfl⟩;have HQ:Hid (Q=if inB m.kind 1 5 then(if E≠0 then E else if X then 4 else 0)else 3):=hQ.out.symm.trans (by simp only[msgF,ha,hb,Bool.and_self,if_true];rw[hE.out,hX.out]);clear hQ;unfold msgC
 go_enter Tryz.func49,Tryz.ntmps49
 go_upto_region 1 with fail
 refine Zo fun W hbk hsz hbl=>?_
 have r1:=r.mono (Zaa hbl);have hz:=hbl.size;have hlt0:=hbk.lt;clear r hsz;have g0:=hbk.cell 0;have g1:=hbk.cell 1;have g2:=hbk.cell 2;simp at g0 g1 g2
 go_wp2_with (first|(go_at_call 62;refine(Za4 _ _).mono ?_;rintro e w' ⟨rfl,rfl⟩)|(refine wpList_load_row rfl 66 _ rfl _ rfl _ _ _ _ hbk Tryz.underlying66 rfl (by kernel_rfl) ?_)|(refine Zj 19 (Blk.new _ _ _) ?_))
 intro w2 hB2 hg2;have hb2:Below W.heap.size W w2:=Zab (Zac _ _) (Zau _ (Nat.le_refl _)) hg2 (by intro k e;injection e;omega);have hbl2:=hbl.trans (hb2.mono hz);have hbk2:=hbk.kept hb2;have r2:=r1.mono (Zaa hb2);have hz2:=hb2.size;have r1b:=r1;have hb2':=hb2;clear hg2 hb2 r1 hbk g0 g1 g2;have hq:=hbk2;have g2:=hq.cell 2;have g3:=hq.cell 3;have g4:=hq.cell 4;have g5:=hq.cell 5;have g6:=hq.cell 6;have g7:=hq.cell 7;have g8:=hq.cell 8;have g9:=hq.cell 9;have g10:=hq.cell 10;have g11:=hq.cell 11;have g12:=hq.cell 12;have g13:=hq.cell 13;have g14:=hq.cell 14;have g15:=hq.cell 15;have g16:=hq.cell 16;have g17:=hq.cell 17;have g18:=hq.cell 18;simp at g2 g3 g4 g5 g6 g7 g8 g9 g10 g11 g12 g13 g14 g15 g16 g17 g18;have r2g:RMsg (View.but w2.cell? (some W.heap.size)) m (.slice tA m.bat.txs.length tc) (.slice bA m.hdr.batches.length bc) (.slice pA m.hdr.parents.length pc) (.slice dA m.slt.digest.length dc) (.slice cA m.crt.hdr.batches.length cc) (.slice qA m.crt.hdr.parents.length qc) (.slice vA m.crt.voters.length vc):=r1b.mono (Zda hb2');have hk1:¬m.kind=1:=by omega
 have hk2:¬m.kind=2:=by omega
 have hk3:¬m.kind=3:=by omega
 have hk4:¬m.kind=4:=by omega
 have hk5:¬m.kind=5:=by omega
 have HQ':Hid (Q=3):=by show _=_;rw[HQ.out,if_neg (by simp[inB];omega)]
 go_wp2;go_ret;exact⟨Zaj HQ'.out.symm,hbl2⟩
end Go.Proofs.YtinibgklgehdpaaGreatDoor
