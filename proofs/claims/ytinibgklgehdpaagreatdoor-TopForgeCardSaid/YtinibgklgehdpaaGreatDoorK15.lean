/- A part of what the last text stands on. -/
import Derived.Deep.MidRow
import Derived.Deep.DeepCutAuto
import Derived.Deep.CutBlock
import Derived.Test.YtinibgklgehdpaaGreatDoorK03
import Derived.Test.YtinibgklgehdpaaGreatDoorK04
import Derived.Test.YtinibgklgehdpaaGreatDoorK05
import Derived.Test.YtinibgklgehdpaaGreatDoorK07
import Derived.Test.YtinibgklgehdpaaGreatDoorK08
import Derived.Test.YtinibgklgehdpaaGreatDoorK09
import Derived.Test.YtinibgklgehdpaaGreatDoorK10
import Derived.Test.YtinibgklgehdpaaGreatDoorK11
import Derived.Test.YtinibgklgehdpaaGreatDoorK13
import Derived.Test.YtinibgklgehdpaaGreatDoorK14
namespace Go.Proofs.YtinibgklgehdpaaGreatDoor
open Go.ChangeShapes Go.WideShapes Go.ChangeAt Go.RowKit Qa Qb Qc
set_option linter.all false
set_option maxHeartbeats 20000000
set_option maxRecDepth 100000
variable{P:Program}{w w' W wr:World}{a:Act}{o:Oper}{ops:Array Oper}{rest:List Oper}{Q:Exit→Act→World→Prop}{K:Act→World→Prop}{v:Value}{cur:Array Value}{A:Option Addr}{h:View}{e t te:TypeId}{k g bs b c:Nat}{α:Type}{xs:List α}{enc:α→Value}{ms:List Msg}
theorem wpList_load_row_w(hwd:Region.wanted o (yielded ops a.tmps)=true)(ty:TypeId)(x:Operand)(ho:o.op=.load ty x)(g:Nat)(hx:a.eval x=.pointer (some ⟨g,0,none⟩))(t:TypeId)(cs:Array Value)(fr:Nat×Nat)(d:TypeDesc)(hg:w.heap[g]?=some (.cells cs t fr))(hu:P.underlying ty=some d)(hd:(match d with|.struct _|.array _ _=>true|_=>false)=true)(hi:(P.info? ty).map (·.size)=some cs.size)(h:wpList P ops Q rest (a.put o.dst (.agg cs)) w):wpList P ops Q (o::rest) a w :=
 wpList_step fun K hK=>by rw[if_pos hwd];exact wp_load_row ty x ho g hx t cs fr d hg hu hd hi (hK _ _ h)
def recN(d:List UInt8)(a:Nat):Nat:=match d[a]?,d[a+1]? with|some x,some y=>x.toNat*256+y.toNat|_,_=>0
def recB(d:List UInt8)(a:Nat):List UInt8:=(d.drop (a+2)).take (recN d a)
def Zfn(d:List UInt8)(a:Nat):Bool:=decide (a+2≤d.length)&&decide (a+2+recN d a≤d.length)&&decide (decE (recB d a)=0)&&decide (recF (decM (recB d a))=0)
def rcvR(d:List UInt8):Nat→List Msg→Nat→List Msg×Nat
 |0,ms,a=>(ms,a)
 |n+1,ms,a=>if Zfn d a then rcvR d n (ms++[decM (recB d a)]) (a+2+recN d a)else(ms,a)
def rcvP(d:List UInt8):List Msg×Nat:=rcvR d (d.length+1) [] 0
theorem Zw2{d:List UInt8}{a:Nat}(h:d.length<k+a)(ha:a≤d.length)(hg:Zfn d a=true):∃k',rcvR d k ms a=rcvR d k' (ms++[decM (recB d a)]) (a+2+recN d a)∧d.length<k'+(a+2+recN d a):=by
 cases k with
 |zero=>omega
 |succ k=>exact⟨k,by rw[rcvR,if_pos hg],by omega⟩
theorem rcv_stop{d:List UInt8}{a:Nat}(hg:Zfn d a=false):rcvR d k ms a=(ms,a):=by
 cases k with
 |zero=>rfl
 |succ k=>rw[rcvR,if_neg (by rw[hg];decide)]
theorem Zzb{d:List UInt8}{a:Nat}(h:a+1<d.length):recN d a=d[a].toNat*256+d[a+1].toNat:=by
 unfold recN;rw[List.getElem?_eq_getElem (by omega),List.getElem?_eq_getElem h]
def rcvE(d:List UInt8)(a:Int):Int:=if Zba d a then 0 else 12
def rcvM(d:List UInt8)(a:Int):List Msg:=if Zba d a then(rcvP d).1 else []
def rcvD(d:List UInt8)(a:Int):List UInt8:=if Zba d a then d.take (rcvP d).2 else []
def rcvY(d:List UInt8)(a:Int):Int:=if Zba d a then(if a≤(rcvP d).2 then a else(rcvP d).2)else 0
theorem decM_small(b:List UInt8):∀t∈(decM b).bat.txs,t.size≤140737488355328:=by
 unfold decM;split
 ·exact Zi9 _ _ _ _
 ·intro t ht;cases ht
def RMsgR(h:View)(cs:List Value)(m:Msg):Prop:=∃vt vb vp vd cb cp cv,cs=(msgC m vt vb vp vd cb cp cv).toList∧RMsg h m vt vb vp vd cb cp cv
theorem RMsgR.mono:Mono RMsgR:=fun _ _ _ _ ⟨vt,vb,vp,vd,cb,cp,cv,e,r⟩ hle=>⟨vt,vb,vp,vd,cb,cp,cv,e,r.mono hle⟩
abbrev RMsgs:=RSl 19 RMsgR 264
abbrev OwnMsgs(b:Nat):=OwnSl 19 (RFrom b RMsgR) 66
theorem Zi6:Elem Tryz.prog 114 66 19 264:=Znz (z:=.agg #[.int .i64 0,.int .i64 0,.int .i64 0,.int .i64 0,.int .i64 0,.slice none 0 0,.int .i64 0,.int .i64 0,.slice none 0 0,.slice none 0 0,.int .i64 0,.int .i64 0,.slice none 0 0,.int .i64 0,.int .i64 0,.slice none 0 0,.slice none 0 0,.slice none 0 0,.int .i64 0]) Tryz.underlying114 (by kernel_rfl) rfl (by decide)
theorem RMsgs.nil(h:View):RMsgs h (.slice none 0 0) []:=⟨none,0,rfl,Nat.le_refl _,Nat.zero_le _,by simp,fun _=>rfl,fun h=>by simp at h⟩
theorem Zkr{fn:Func}{p q u:Tmp}{n:Nat}{tmps:Array Value}(h:fn.results=#[.tmp q,.cell p t,.tmp u])(hp:tmps.getD p undef=.pointer (some ⟨g,0,none⟩))(hagg:(isAgg t).run P w=.ok true w)(hi:(P.info? t).map (·.size)=some n)(hb:Blk w g te cur)(hn:cur.size=n) :
 (results fn tmps).run P w=.ok (.tuple #[tmps.getD q undef,.agg cur,tmps.getD u undef]) w:=by
 have:=Zdc (P:=P) hagg hi hb (o:=0) (by omega);rw[List.drop_zero,List.take_of_length_le (by simp[hn])]at this;have hp':tmps[p]?.getD undef=.pointer (some ⟨g,0,none⟩):=by simpa using hp
 simp only[results,h];simp[Sem.run_bind,Result.andThen,hp',asAddr,this]
theorem bodyOf{d:List UInt8}{a:Nat}(hr:Zao h (.slice A d.length c) d)(h2:a+2+recN d a≤d.length):Zao h (.slice (if c=a+2 then A else A.map fun x=>x.add (a+2)) (recN d a) (c-(a+2))) (recB d a):=by
 obtain⟨A',c',e,hc,_⟩:=id hr;injection e with e1 e2 e3;subst e3;have hl:(recB d a).length=recN d a:=by unfold recB;simp;omega
 split
 ·exact RVec.stubN _ _ _ _ (by omega) (by omega) hl
 ·exact(hr.dropN (by omega)).takeN (by simp;omega)
def Zkk(l:List Sign)(bad:Int)(s:Sign):Int:=if Zef l≠0 then Zef l else if inB bad (-1) 3 then Zkl s.node s.slot.author s.slot.round s.slot.digest.length else 2
def Zir(l:List Sign)(bad:Int)(s:Sign):Bool:=if Zkk l bad s≠0 then false else s.node==bad||Zcc l s
theorem bad_any(n:Int)(w:World):Calls Tryz.prog 68 #[.int .i64 n] w fun e w'=>e=.returned (.bool (inB n (-1) 3))∧w=w':=by
 by_cases h1: -1≤n<;>by_cases h2:n<4
 all_goals
  have hB:inB n (-1) 3=decide (-1≤n∧n≤3):=rfl
  go_enter Tryz.func68,Tryz.ntmps68
  go_wp2;go_ret;exact⟨Zap (by simp[inB];try omega),rfl⟩
theorem Zsk(v:Value)(l:List Sign)(bad:Int)(s:Sign)(sd:Value)(w:World)(hv:RSigns w.cell? v l)(hsd:Zao w.cell? sd s.slot.digest) :
 Calls Tryz.prog 173 #[v,.int .i64 bad,.agg #[.int .i64 s.node,.int .i64 s.slot.author,.int .i64 s.slot.round,sd]] w fun e w'=>e=.returned (.tuple #[.bool (Zir l bad s),.int .i64 (Zkk l bad s)])∧Below w.heap.size w w':=by
 obtain⟨p,hp⟩:∃p,Hid (Zef l=p):=⟨_,rfl⟩;obtain⟨q,hq⟩:∃q,Hid (Zkl s.node s.slot.author s.slot.round s.slot.digest.length=q):=⟨_,rfl⟩;obtain⟨b,hb⟩:∃b,Hid (inB bad (-1) 3=b):=⟨_,rfl⟩;obtain⟨z,hz⟩:∃z,Hid (Zcc l s=z):=⟨_,rfl⟩;have HE:Hid (Zkk l bad s=if p≠0 then p else if b then q else 2):=by show _=_;rw[Zkk,hp.out,hq.out,hb.out]
 have HB:Hid (Zir l bad s=if (if p≠0 then p else if b then q else 2)≠0 then false else s.node==bad||z):=by show _=_;rw[Zir,HE.out,hz.out]
 obtain⟨sA,sc,rfl,_⟩:=id hsd
 go_enter Tryz.func173,Tryz.ntmps173
 go_wp2_with fail
 refine Za7 _ _ _ (fun W=>Calls Tryz.prog _ _ W _) (fun W hk hsz hbw=>?_);refine(Zfv _ l _ (hv.mono RSign.mono (Zaa hbw))).mono ?_;rintro e w1 ⟨rfl,hb1⟩;rw[hp.out];have hbl1:=hbw.trans (hb1.mono (by omega));have hk1:=hk.kept hb1;clear hb1
 by_cases hp0:p=0
 ·subst hp0
  go_wp2_with fail
  refine(bad_any _ _).mono ?_;rintro e w' ⟨rfl,rfl⟩;rw[hb.out];cases b
  ·go_wp2;go_ret2;exact⟨by rw[HE.out,HB.out];rfl,hbl1⟩
  ·have c0:=hk1.cell 0;have c1:=hk1.cell 1;have c2:=hk1.cell 2;have c3:=hk1.cell 3;simp at c0 c1 c2 c3
   go_wp2_with fail
   refine(Ze6 _ _ _ _ _ _ _).mono ?_;rintro e w2 ⟨rfl,hb2⟩;rw[hq.out];have hbl2:=hbl1.trans (hb2.mono hbl1.size);have hk2:=hk1.kept hb2;clear c0 c1 c2 c3;have c0:=hk2.cell 0;have c1:=hk2.cell 1;have c2:=hk2.cell 2;have c3:=hk2.cell 3;simp at c0 c1 c2 c3
   by_cases hq0:q=0
   ·subst hq0;cases hn:(s.node==bad)
    ·go_wp2_with fail
     refine(Zfu _ l s _ _ (hv.mono RSign.mono (Zaa hbl2)) (hsd.mono (Zaa hbl2))).mono ?_;rintro e w3 ⟨rfl,hb3⟩;rw[hz.out];go_wp2;go_ret2;exact⟨by rw[HE.out,HB.out,hn];rfl,hbl2.trans (hb3.mono hbl2.size)⟩
    ·go_wp2;go_ret2;exact⟨by rw[HE.out,HB.out,hn];rfl,hbl2⟩
   ·go_wp2;go_ret2;exact⟨by rw[HE.out,HB.out];simp[hq0],hbl2⟩
 ·go_wp2;go_ret2;exact⟨by rw[HE.out,HB.out];simp[hp0],hbl1⟩
def Zki(c:Crt):Slot:=⟨c.hdr.author,c.hdr.round,hD c.hdr⟩
def Zdi(l:List Sign)(bad:Int)(s:Slot)(n:Int):Bool:=n==bad||Zcc l ⟨n,s⟩
def Zl4(l:List Sign)(bad:Int)(c:Crt):Int:=if Zef l≠0 then Zef l else if inB bad (-1) 3 then(if cF c≠0 then cF c else if (c.voters++[c.hdr.author]).all (Zdi l bad (Zki c))then 0 else 11)else 2
theorem Zz5{l:List α}{p:α→Bool}(h:∀j (hj:j<l.length),p l[j]=true):l.all p=true:=by
 rw[List.all_eq_true];intro x hx;obtain⟨i,hi,rfl⟩:=List.getElem_of_mem hx;exact h i hi
theorem Zz4{l:List α}{p:α→Bool}(hk:k<l.length)(h:p l[k]=false):l.all p=false:=by
 rw[List.all_eq_false];exact⟨l[k],List.getElem_mem hk,by simp[h]⟩
theorem Zss(vl:Value)(l:List Sign)(bad:Int)(x:Crt)(vb vp vv:Value)(w:World)(hl:RSigns w.cell? vl l)(hb:RDigs w.cell? vb x.hdr.batches)(hp:RDigs w.cell? vp x.hdr.parents)(hv:RIs w.cell? vv x.voters)(hT:Tabs w.cell?) :
 Calls Tryz.prog 39 #[vl,.int .i64 bad,.agg #[.int .i64 x.hdr.author,.int .i64 x.hdr.round,vb,vp,vv]] w fun e w'=>e=.returned (.int .i64 (Zl4 l bad x))∧Below w.heap.size w w':=by
 obtain⟨A,c,rfl,hf0⟩:=id hl;obtain⟨bA,bc,rfl,hf1⟩:=id hb;obtain⟨pA,pc,rfl,hf2⟩:=id hp;obtain⟨vA,vc,rfl,hf3⟩:=id hv;clear hf0 hf1 hf2 hf3;obtain⟨Q,hQ⟩:∃q,Hid (Zl4 l bad x=q):=⟨_,rfl⟩;have hE0:Hid (Q=if Zef l≠0 then Zef l else if inB bad (-1) 3 then(if cF x≠0 then cF x else if (x.voters++[x.hdr.author]).all (Zdi l bad (Zki x))then 0 else 11)else 2):=hQ.out.symm
 have hcert:Hid (cF x=0→hF x.hdr=0∧x.voters.length≤4):=fun h0=>by
  refine⟨Zv1 h0,?_⟩;unfold cF Zg4 at h0;split at h0
  ·rename_i h1;exact absurd h0 h1
  ·split at h0
   ·cases h0
   ·omega
 rw[hQ.out];clear hQ;obtain⟨E1,hE1⟩:∃q,Hid (Zef l=q):=⟨_,rfl⟩;obtain⟨E2,hE2⟩:∃q,Hid (cF x=q):=⟨_,rfl⟩;rw[hE1.out,hE2.out]at hE0;rw[hE2.out]at hcert
 go_enter Tryz.func39,Tryz.ntmps39
 go_wp2_with fail
 refine Za7 _ _ _ (fun W=>Calls Tryz.prog _ _ W _) (fun W hk hsz hbW=>?_);clear hsz;have hzW:=hbW.size;refine(Zfv _ l _ (hl.mono RSign.mono (Zaa hbW))).mono ?_;rintro e w1 ⟨rfl,hb1⟩;rw[hE1.out];have hbl1:=hbW.trans (hb1.mono hzW);have hk1:=hk.kept hb1;have hz1:=hbl1.size
 by_cases h1:E1=0
 rotate_left
 ·have HE:Hid (Q=E1):=by show _=_;rw[hE0.out];simp[h1]
  clear hE0;go_wp2;go_ret;exact⟨Zaj HE.out.symm,hbl1⟩
 have hE0:Hid (Q=if inB bad (-1) 3 then(if E2≠0 then E2 else if (x.voters++[x.hdr.author]).all (Zdi l bad (Zki x))then 0 else 11)else 2):=by show _=_;rw[hE0.out];simp[h1]
 clear hE1;subst h1
 go_wp2_with fail
 refine(bad_any _ _).mono ?_;rintro e w' ⟨rfl,rfl⟩;cases hbd:inB bad (-1) 3
 ·have HE:Hid (Q=2):=by show _=_;rw[hE0.out,hbd];rfl
  clear hE0 hbd;go_wp2;go_ret;exact⟨Zaj HE.out.symm,hbl1⟩
 have hE0:Hid (Q=if E2≠0 then E2 else if (x.voters++[x.hdr.author]).all (Zdi l bad (Zki x))then 0 else 11):=by show _=_;rw[hE0.out,hbd];rfl
 clear hbd;have q1:=Zaa hbl1;have g0:=hk1.cell 0;have g1:=hk1.cell 1;have g2:=hk1.cell 2;have g3:=hk1.cell 3;have g4:=hk1.cell 4;simp at g0 g1 g2 g3 g4
 go_wp2_with fail
 refine(Zek _ _ _ _ _ x.hdr.batches x.hdr.parents x.voters _ (hb.mono RDig.mono q1) (hp.mono RDig.mono q1) (hv.mono q1)).mono ?_;rintro e w2 ⟨rfl,hb2⟩;rw[show Zg4 x.hdr.author x.hdr.round x.hdr.batches x.hdr.parents x.voters=E2 from hE2.out];have hbl2:=hbl1.trans (hb2.mono hz1);have hk2:=hk1.kept hb2;have hz2:=hbl2.size;clear g0 g1 g2 g3 g4 q1 hk1
 by_cases h2:E2=0
 rotate_left
 ·have HE:Hid (Q=E2):=by show _=_;rw[hE0.out];simp[h2]
  clear hE0;go_wp2;go_ret;exact⟨Zaj HE.out.symm,hbl2⟩
 have hval:=Lib.hid (hcert.out h2);have hE0:Hid (Q=if (x.voters++[x.hdr.author]).all (Zdi l bad (Zki x))then 0 else 11):=by show _=_;rw[hE0.out];simp[h2]
 clear hcert hE2;subst h2;have q2:=Zaa hbl2;have g0:=hk2.cell 0;have g1:=hk2.cell 1;have g2:=hk2.cell 2;have g3:=hk2.cell 3;simp at g0 g1 g2 g3
 go_wp2_with fail
 refine(Zbx _ _ _ _ x.hdr.batches x.hdr.parents _ (hb.mono RDig.mono q2) (hp.mono RDig.mono q2) (hT.mono q2)).mono ?_;rintro e w3 ⟨d3,rfl,hb3,r3⟩;rw[show Zb3 x.hdr.author x.hdr.round x.hdr.batches x.hdr.parents=0 from hval.out.1];rw[show Zi4 x.hdr.author x.hdr.round x.hdr.batches x.hdr.parents=(Zki x).digest from if_pos hval.out.1]at r3;have hbl3:=hbl2.trans (hb3.mono hz2);have hk3:=hk2.kept hb3;have hz3:=hbl3.size;have r3:=r3.mono (View.from_le _ _);have hsl:Hid ((Zki x).author=x.hdr.author∧(Zki x).round=x.hdr.round):=⟨rfl,rfl⟩;generalize Zki x=S at r3 hE0 hsl;obtain⟨A3,c3,rfl,hf3⟩:=id r3;clear g0 g1 g2 g3 q2 hk2 hf3;have g0:=hk3.cell 0;have g1:=hk3.cell 1;have g4:=hk3.cell 4;simp at g0 g1 g4
 go_upto_region 11 with fail
 refine Zo fun W4 h4 hs4 hb4=>?_
 clear hs4 g0 g1 g4;have hbl4:=hbl3.trans (hb4.mono hz3);have hz4:=hbl4.size;have hk4:=hk3.kept hb4;have r4:=r3.mono (Zaa hb4);have hv4:=hv.mono (Zaa hbl4);clear hk3 r3;obtain⟨V,hV⟩:∃V,Hid (x.voters++[x.hdr.author]=V):=⟨_,rfl⟩;rw[hV.out]at hE0;have hVl:=Lib.hid (show V.length≤5 by rw[←hV.out];simp;exact hval.out.2);have hlv:=hval.out.2;have h4':Blk W4 w3.heap.size 61 #[.int .i64 S.author,.int .i64 S.round,.slice A3 S.digest.length c3]:=by rw[hsl.out.1,hsl.out.2];exact h4
 clear h4 hsl hval
 go_cut [48,49,50] (fun v n i w'=>∃A c,v=.slice A V.length c∧n=.int .i64 V.length∧i=.int .i64 0∧RIs w'.cell? (.slice A V.length c) V∧Below W4.heap.size W4 w')
 case first =>
  refine Zr [] (.q 0 (.q 1 (.q 3 (.q 4 (.q 5 (.q 9 (.alt 2 (.l 6 (.l 7 (.q 8 .nil))) 6 (.l 2 (.l 7 (.q 8 .nil)))))))))) fun W5 hS5=>?_
  repeat((first|refine pq (h:=⟨_,fun w' hS=>by(have hq:=hk4.kept hS;have h0:=hq.cell 0;have h4:=hq.cell 4;simp at h0 h4;go_simp;exact rfl),?_⟩)|refine Zq ?_);simp only[sx])
  refine Zcl ?_ ?_
  ·refine Zd fun K hK=>?_
   try simp only[sy]
   go_simp;refine(Zgy _ x.voters _ (hv4.mono (Zaa hS5))).mono ?_;rintro e w6 ⟨v6,rfl,hb6,o6⟩;have hS6:=hS5.trans (hb6.mono hS5.size);have hlt6:=o6.own.lt;obtain⟨A6,c6,rfl⟩:=o6.form;refine hK.out _ _ (hS6) fun hS=>?_
   clear hK K
   try simp only[sx]
   repeat((first|refine pq (h:=⟨_,fun w' hS=>by(have hq:=hk4.kept hS;have h0:=hq.cell 0;simp at h0;go_simp;exact rfl),?_⟩)|refine Zq ?_);simp only[sx])
   refine Zd fun K hK=>?_
   try simp only[sy]
   go_simp;have hb7:=Zac w6 (.cells #[.int .i64 x.hdr.author] 3);have ho7:=o6.kept hb7;have hn0:(w6.alloc (.cells #[.int .i64 x.hdr.author] 3)).cell? ⟨w6.heap.size,0,none⟩=some (encI x.hdr.author):=(Blk.new w6 3 #[.int .i64 x.hdr.author]).cell 0;have hS7:=hS6.trans (hb7.mono hS6.size);have hz5:=hS5.size;have hz6:=hb6.size;refine hK.out _ _ (hS7) fun hS=>?_
   clear hK K
   try simp only[sx]
   repeat(refine Zq ?_;simp only[sx])
   refine Zd fun K hK=>?_
   try simp only[sy]
   refine Zcn (n:=140737488355328) (ys:=[x.hdr.author]) Zvn Zib _ _ rfl rfl ho7 (by simp;omega) rfl (RVec.one x.hdr.author hn0 (by decide)) (by decide) (by simp;omega) (by simp;omega) (fun v8 w8 ho8 hg8 _=>?_);rw[hV.out]at ho8;have hS8:Below W4.heap.size W4 w8:=Zab hS7 hS7.size hg8 (fun q hq=>by have:=(hlt6 q hq).1;omega);obtain⟨A8,c8,rfl⟩:=ho8.form;refine hK.out _ _ (hS8) fun hS=>?_
   clear hK K
   try simp only[sx]
   repeat(refine Zq ?_;simp only[sx])
   refine Zah ?_;have hr8:=ho8.reads (bs:=8) (by have:=hVl.out;omega);clear ho8 ho7 hn0 hb7
   go_wp2_with fail
   go_meet;exact⟨A8,c8,rfl,rfl,rfl,hr8,hS8⟩
  ·refine Zd fun K hK=>?_
   try simp only[sy]
   go_simp;have hb7:=Zac W5 (.cells #[.int .i64 x.hdr.author] 3);have hn0:(W5.alloc (.cells #[.int .i64 x.hdr.author] 3)).cell? ⟨W5.heap.size,0,none⟩=some (encI x.hdr.author):=(Blk.new W5 3 #[.int .i64 x.hdr.author]).cell 0;have hS7:=hS5.trans (hb7.mono hS5.size);have hz5:=hS5.size;refine hK.out _ _ (hS7) fun hS=>?_
   clear hK K
   try simp only[sx]
   repeat(refine Zq ?_;simp only[sx])
   refine Zd fun K hK=>?_
   try simp only[sy]
   go_simp;refine(Zgy _ x.voters _ (hv4.mono (Zaa hS7))).mono ?_;rintro e w6 ⟨v6,rfl,hb6,o6⟩;have hS6:=hS7.trans (hb6.mono hS7.size);have hlt6:=o6.own.lt;obtain⟨A6,c6,rfl⟩:=o6.form;have hn1:=Zaa hb6 _ _ hn0;have hz6:=hb6.size;simp at hz6;simp at hlt6;refine hK.out _ _ (hS6) fun hS=>?_
   clear hK K
   try simp only[sx]
   repeat(refine Zq ?_;simp only[sx])
   refine Zd fun K hK=>?_
   try simp only[sy]
   refine Zcn (n:=140737488355328) (ys:=[x.hdr.author]) Zvn Zib _ _ rfl rfl o6 (by simp;omega) rfl (RVec.one x.hdr.author hn1 (by decide)) (by decide) (by simp;omega) (by simp;omega) (fun v8 w8 ho8 hg8 _=>?_);rw[hV.out]at ho8;have hS8:Below W4.heap.size W4 w8:=Zab hS6 hS6.size hg8 (fun q hq=>by have:=(hlt6 q hq).1;omega);obtain⟨A8,c8,rfl⟩:=ho8.form;refine hK.out _ _ (hS8) fun hS=>?_
   clear hK K
   try simp only[sx]
   repeat(refine Zq ?_;simp only[sx])
   refine Zah ?_;have hr8:=ho8.reads (bs:=8) (by have:=hVl.out;omega);clear ho8 o6 hn0 hn1 hb7
   go_wp2_with fail
   go_meet;exact⟨A8,c8,rfl,rfl,rfl,hr8,hS8⟩
 case rest =>
  obtain⟨VA,vc',rfl,rfl,rfl,hrV,hbc⟩:=hcut;have hbl5:=hbl4.trans (hbc.mono hz4);have h4c:=h4'.kept hbc;have r5:=r4.mono (Zaa hbc);have hl5:=hl.mono RSign.mono (Zaa hbl5);have hz5:=hbl5.size;obtain⟨_,hn1,hn2,hel⟩:=hrV.at;have Hel:=Lib.hid hel;clear hel hrV h4' r4 hv4 hk4
  go_wp2_with fail
  go_loopw [13,50] (fun _ i wr=>∃k:Nat,k≤V.length∧i=.int .i64 k∧(∀j (hj:j<V.length),j<k→Zdi l bad S V[j]=true)∧Below wc.heap.size wc wr) (fun _ i _=>V.length-(intOf i).toNat)
  case atStart=>exact⟨0,Nat.zero_le _,rfl,fun j hj h=>by omega,Below.refl _ _⟩
  case round =>
   obtain⟨k,hk,rfl,hok',hbl⟩:=hrel;have hok:=Lib.hid hok';clear hok';have hbls:=hbl5.trans (hbl.mono hz5)
   by_cases hlt:k<V.length
   ·obtain⟨b0,o0,rfl,e0⟩:=Hel.out k hlt;have c0:=Zaa hbl _ _ e0
    have hnext:Hid (Zdi l bad S V[k]=true→∀j (hj:j<V.length),j<k+1→Zdi l bad S V[j]=true):=fun hq j hj hjk=>by
     by_cases e:j=k
     ·subst e;exact hq
     ·exact hok.out j hj (by omega)
    have hbadQ:Hid (Zdi l bad S V[k]=false→Q=11):=fun h=>by rw[hE0.out,Zz4 hlt h];rfl
    have hsn:Hid (Zdi l bad S V[k]=(V[k]==bad||Zcc l ⟨V[k],S⟩)):=rfl;clear e0;generalize V[k]=y at c0 hnext hbadQ hsn;have hs4:=h4c.kept hbl;have s0:=hs4.cell 0;have s1:=hs4.cell 1;have s2:=hs4.cell 2;simp at s0 s1 s2
    by_cases hy:y=bad
    ·have hq:=Lib.hid (hnext.out (by rw[hsn.out,hy];simp));clear hnext hbadQ hsn;go_wp2;go_roundw
     case rel=>exact⟨k+1,by omega,by go_num,hq.out,hbl⟩
     case measure=>simp[intOf];omega
    ·obtain⟨Z,hZ⟩:∃z,Hid (Zcc l ⟨y,S⟩=z):=⟨_,rfl⟩;have hsn2:Hid (Zdi l bad S y=Z):=by show _=_;rw[hsn.out,hZ.out];simp[hy]
     clear hsn
     go_wp2_with fail
     refine(Zfu _ l ⟨y,S⟩ _ _ (hl5.mono RSign.mono (Zaa hbl)) (r5.mono (Zaa hbl))).mono ?_;rintro e w7 ⟨rfl,hb7⟩;rw[hZ.out];have hbl7:=hbl.trans (hb7.mono hbl.size);clear s0 s1 s2 c0;cases Z
     ·have HQ:=Lib.hid (hbadQ.out hsn2.out);clear hnext hbadQ hsn2 hZ;go_wp2;go_ret;exact⟨Zaj HQ.out.symm,hbl5.trans (hbl7.mono hz5)⟩
     ·have hq:=Lib.hid (hnext.out hsn2.out);clear hnext hbadQ hsn2 hZ;go_wp2;go_roundw
      case rel=>exact⟨k+1,by omega,by go_num,hq.out,hbl7⟩
      case measure=>simp[intOf];omega
   ·have HQ:Hid (Q=0):=by show _=_;rw[hE0.out,Zz5 (fun j hj=>hok.out j hj (by omega))];rfl
    clear hE0;go_wp2;go_ret;exact⟨Zaj HQ.out.symm,hbls⟩
def Zcx(l:List ByteArray)(s:ByteArray):Bool:=l.any fun t=>t.toList==s.toList
theorem Znu(v:Value)(l:List ByteArray)(s:ByteArray)(w:World)(hv:RTexts w.cell? v l) :
 Calls Tryz.prog 170 #[v,.string s] w fun e w'=>(∃n:Int,e=.returned (.int .i64 n)∧(decide (0≤n)=Zcx l s))∧w=w':=by
 obtain⟨A,c,rfl,hlen,hel⟩:=hv.form;have Hel:=Lib.hid hel;clear hel hv
 go_enter Tryz.func170,Tryz.ntmps170
 go_wp2
 go_loop [8] (fun i=>∃k:Nat,k≤l.length∧i=.int .i64 k∧Hid (∀j (hj:j<l.length),j<k→(l[j].toList==s.toList)=false)) (fun i=>l.length-(intOf i).toNat)
 case atStart=>exact⟨0,Nat.zero_le _,rfl,fun j _ hj=>by omega⟩
 case round =>
  obtain⟨k,hk,rfl,hok⟩:=hrel
  by_cases hlt:k<l.length
  ·obtain⟨b0,o0,rfl,hcell⟩:=Hel.out k hlt;cases he:(s.toList==l[k].toList)
   ·go_wp2;have He:=Lib.hid he;go_round
    case rel=>exact⟨k+1,by omega,by go_num,fun j hj hjk=>by
     by_cases e:j=k
     ·subst e;have:=He.out;rw[beq_eq_false_iff_ne]at this ⊢;exact fun h=>this h.symm
     ·exact hok.out j hj (by omega)⟩
    case measure=>simp[intOf];omega
   ·go_wp2;go_ret;exact⟨⟨k,rfl,by rw[Zcx,Zgn hlt (by rw[beq_iff_eq]at he ⊢;exact he.symm)];simp⟩,rfl⟩
  ·go_wp2;go_ret;exact⟨⟨-1,rfl,by rw[Zcx,Zf3 fun j hj=>hok.out j hj (by omega)];rfl⟩,rfl⟩
theorem Zee(v:Value)(l:List ByteArray)(s:ByteArray)(w:World)(hv:RTexts w.cell? v l) :
 Calls Tryz.prog 138 #[v,.string s] w fun e w'=>e=.returned (.bool (Zcx l s))∧w=w':=by
 go_enter Tryz.func138,Tryz.ntmps138
 go_wp2_with fail
 refine(Znu _ _ _ _ hv).mono ?_;rintro e w' ⟨⟨n,rfl,hn⟩,rfl⟩;go_wp2;go_ret;exact⟨rfl,rfl⟩
theorem tx_any(s:ByteArray)(w:World)(hs:s.size≤140737488355328):Calls Tryz.prog 137 #[.string s] w fun e w'=>e=.returned (.bool (txOk s))∧w=w':=by
 by_cases h1:1≤s.size<;>by_cases h2:s.size≤20
 all_goals
  have hB:Hid (txOk s=decide (1≤s.size∧s.size≤20)):=rfl
  go_enter Tryz.func137,Tryz.ntmps137
  go_wp2
  all_goals (go_ret;exact⟨Zap (by rw[hB.out];simp[h1,h2];try omega),rfl⟩)
def Zqz(l:List ByteArray)(i:Nat):Bool:=match l[i]? with|some t=> !txOk t||Zcx (l.take i) t|none=>false
def Zdp(next:Int)(l:List ByteArray):Int:=if !inB next 1 1048577||decide (40<l.length)then 12 else if (List.range l.length).any (Zqz l)then 12 else 0
theorem Zyk{l:List ByteArray}(hk:k<l.length):Zqz l k=(!txOk l[k]||Zcx (l.take k) l[k]):=by
 unfold Zqz;rw[List.getElem?_eq_getElem hk]
theorem Zfx(next:Int)(v:Value)(l:List ByteArray)(w:World)(hv:RTexts w.cell? v l)(hs:∀s∈l,s.size≤140737488355328) :
 Calls Tryz.prog 136 #[.agg #[.int .i64 next,v]] w fun e w'=>e=.returned (.int .i64 (Zdp next l))∧Below w.heap.size w w':=by
 obtain⟨A,c,rfl,hlen,hel⟩:=hv.form;have hcap:l.length≤c:=by obtain⟨_,_,e,h,_⟩:=hv;injection e with _ _ e3;omega
 have Hel:=Lib.hid hel;have Hs:=Lib.hid hs;have Hv:=Lib.hid hv;clear hel hv hs;have hq:∀x,Zdp next l=x→Hid (Zdp next l=x):=fun x h=>h
 by_cases ha1:next<1
 ·have Hq:=hq 12 (by
   have:inB next 1 1048577=false:=by(simp[inB];omega)
   simp[Zdp,this])
  clear hq
  go_enter Tryz.func136,Tryz.ntmps136
  go_wp2;go_ret;exact⟨Zaj Hq.out.symm,(Below.refl _ _).alloc (Nat.le_refl _) _⟩
 by_cases ha2:1048577<next
 ·have Hq:=hq 12 (by
   have:inB next 1 1048577=false:=by(simp[inB];omega)
   simp[Zdp,this])
  clear hq
  go_enter Tryz.func136,Tryz.ntmps136
  go_wp2;go_ret;exact⟨Zaj Hq.out.symm,(Below.refl _ _).alloc (Nat.le_refl _) _⟩
 have ha:inB next 1 1048577=true:=by simp[inB];omega
 by_cases hb:40<l.length
 ·have Hq:=hq 12 (by simp[Zdp,ha,hb]);clear hq
  go_enter Tryz.func136,Tryz.ntmps136
  go_wp2;go_ret;exact⟨Zaj Hq.out.symm,(Below.refl _ _).alloc (Nat.le_refl _) _⟩
 have hq':Hid (Zdp next l=if (List.range l.length).any (Zqz l)then 12 else 0):=by
  show _=_;simp only[Zdp,ha];rw[if_neg (by simpa using hb)]
 clear hq
 go_enter Tryz.func136,Tryz.ntmps136
 go_wp2
 go_loop [22] (fun i=>∃k:Nat,k≤l.length∧i=.int .i64 k∧Hid (∀j,j<k→Zqz l j=false)) (fun i=>l.length-(intOf i).toNat)
 case atStart=>exact⟨0,Nat.zero_le _,rfl,fun j hj=>by omega⟩
 case round =>
  obtain⟨k,hk,rfl,hok⟩:=hrel
  by_cases hlt:k<l.length
  ·obtain⟨b0,o0,rfl,hcell0⟩:=Hel.out k hlt;have hcr:=Zgz hcell0;have hsk:=Hs.out l[k] (List.getElem_mem hlt);have Hsub:=fun o=>Lib.hid ((Hv.out.take (k:=k) (by omega)).mono (Zaa ((Below.refl _ _).alloc (Nat.le_refl _) o)))
   clear hcell0;have hkc:k≤c:=by omega
   have hkc':(k:Int)≤(c:Int):=by omega
   have Hbad:=Lib.hid (Zyk hlt);cases ht:txOk l[k]
   ·rw[ht]at Hbad
    go_wp2_with (go_at_call 137;refine(tx_any _ _ hsk).mono ?_;rintro e w' ⟨rfl,rfl⟩)
    go_ret;exact⟨Zaj (by rw[hq'.out,Zb7 hlt Hbad.out];rfl),(Below.refl _ _).alloc (Nat.le_refl _) _⟩
   ·cases ht2:Zcx (l.take k) l[k]
    all_goals
     rw[ht,ht2]at Hbad
     go_wp2_with (first|(go_at_call 137;refine(tx_any _ _ hsk).mono ?_;rintro e w' ⟨rfl,rfl⟩)|(go_at_call 138;refine(Zee _ (l.take k) _ _ (Hsub _).out).mono ?_;rintro e w' ⟨rfl,rfl⟩))
    ·go_round
     case rel=>exact⟨k+1,by omega,by go_num,upto_succ hok.out Hbad.out⟩
     case measure=>simp[intOf];omega
    ·go_ret;exact⟨Zaj (by rw[hq'.out,Zb7 hlt Hbad.out];rfl),(Below.refl _ _).alloc (Nat.le_refl _) _⟩
  ·go_wp2;go_ret;exact⟨Zaj (by rw[hq'.out,Zdo (fun j hj=>hok.out j (by omega))];rfl),(Below.refl _ _).alloc (Nat.le_refl _) _⟩
theorem Zbv(v:Value)(xs:List ByteArray)(w:World)(hr:RTexts w.cell? v xs) :
 Calls Tryz.prog 88 #[v] w fun e w'=>∃v',e=.returned v'∧Below w.heap.size w w'∧OwnS w' w.heap.size v' xs:=by
 have hb:xs.length*16≤140737488355328:=by obtain⟨A,c,_,_,_,h,_⟩:=hr;exact h
 have hb1:=Lib.hid hb;obtain⟨A,c,rfl,_⟩:=id hr;have e1:=@Lib.run_eql_slice_nil Tryz.prog;clear hb;cases A with
 |none =>
  obtain⟨rfl,h1,rfl⟩:=hr.isNil
  go_enter Tryz.func88,Tryz.ntmps88
  go_wp2;go_ret;exact⟨_,rfl,Below.refl _ _,OwnVec.nil _ _ _ _⟩
 |some a =>
  have hr':=hr.mono (Zaa ((Below.refl _ _).alloc (Nat.le_refl _) (.cells #[] 9)));clear hr
  go_enter Tryz.func88,Tryz.ntmps88
  go_wp2_with (at_builtin;refine Za5 (n:=140737488355328) Zk6 Zia _ _ rfl rfl rfl (OwnVec.made _ _ _ _ (Nat.le_refl _)) ((Below.refl _ _).alloc (Nat.le_refl _) _) (Zau _ (Nat.le_refl _)) rfl hr' (Nat.le_refl _) (by simpa using hb1.out) (by have:=hb1.out;simp;omega) ?_)
  intro v' w1 ho hbl _;go_wp2;go_ret;exact⟨v',rfl,hbl,by simpa using ho⟩
theorem Zhq{bytes base n:Nat}{vy:Value}{ys:List α}(hE:Zjx P t e bytes)(h1:∀x:α,(enc x).oneCell'=true)(s y:Operand)(ho:o.op=.call {callee:=.builtin .append,args:=#[s,y],argTypes:=#[t,t] })(hs:a.eval s=v)(hown:OwnVec enc e wr base v xs)(hbl:Below base W wr)(hbase:base≤wr.heap.size)(hx:a.eval y=vy)(hy:RVec enc bytes wr.cell? vy ys)(hc:n≤140737488355328)(hn:(xs.length+ys.length)*bytes≤n)(hn':xs.length+ys.length≤n)(h:∀v' w',OwnVec enc e w' base v' (xs++ys)→Below base W w'→K (a.put o.dst v') w'):o.wp P a wr K Q:=by
 obtain⟨ht,i,z,hi,hz0,hz1,hz2,hzs⟩:=hE;obtain⟨A,c,rfl,_⟩:=id hy;obtain⟨_,_,_,hl,hA,hcell⟩:=hy.src;refine Zfo s y t ho base e i z 1 bytes ht hi hz0 hz1 hz2 hzs (by decide) v xs.length _ hs hown.own A ys.length c (ys.map enc) hx hl hA hcell (fun u hu=>by obtain⟨x,_,rfl⟩:=List.mem_map.1 hu;exact h1 x) (Zbw (Nat.le_trans hn' hc)) (Nat.le_trans hn hc) hbase (fun v' w' ho hg=>h v' w' ⟨?_⟩ (hbl.grown hg hbase (fun g hg=>(hown.own.lt g hg).1)));simpa using ho
def addF(next:Int)(l:List ByteArray)(s:ByteArray):Int:=if Zdp next l≠0 then Zdp next l else if txOk s then(if Zcx l s then 7 else if 40≤l.length then 6 else 0)else 1
theorem Zst(next:Int)(v:Value)(l:List ByteArray)(s:ByteArray)(w:World)(hv:RTexts w.cell? v l)(hs:∀s∈l,s.size≤140737488355328)(hss:s.size≤140737488355328)(hf0:Zdp next l=0)(htx:txOk s=true)(hht:Zcx l s=false)(h40:l.length<40) :
 Calls Tryz.prog 107 #[.agg #[.int .i64 next,v],.string s] w fun e w'=>∃d,e=.returned (.tuple #[.agg #[.int .i64 next,d],.int .i64 0])∧Below w.heap.size w w'∧OwnS w' w.heap.size d (l++[s]):=by
 obtain⟨A,c,rfl,hlen,hel⟩:=hv.form;clear hel
 go_enter Tryz.func107,Tryz.ntmps107
 go_wp2_with fail
 refine Za6 _ _ _ _ _ (fun W=>Calls _ _ _ W _) (fun W hb1 hb2 hsz hbl=>?_);refine(Zfx next _ l _ (hv.mono (Zaa hbl)) hs).mono ?_;rintro e w1 ⟨rfl,hbt⟩;rw[hf0];replace hb1:=hb1.kept hbt;replace hb2:=hb2.kept hbt;replace hbl:=hbl.trans (hbt.mono (by omega));have hd1:=hv.below_but hbl (Nat.le_succ _);have hsz1:=hbt.size;have g0:=hb1.cell 0;have g1:=hb1.cell 1;simp at g0 g1;have Hv1:=Lib.hid (hv.mono (Zaa hbl));clear hbt
 go_wp2_with fail
 refine(tx_any s _ hss).mono ?_;rintro e w' ⟨rfl,rfl⟩;rw[htx]
 go_wp2_with fail
 refine(Zee _ l s _ Hv1.out).mono ?_;rintro e w' ⟨rfl,rfl⟩;rw[hht];go_wp2
 refine Zlv (fun w'=>w1.grownBy w' (some (w.heap.size+1))∧∃cs,Blk w' (w.heap.size+1) 110 cs∧cs.size=2) (.alt [(0,true),(1,true),(2,true),(3,true),(5,true)] 4 6 (.done [(6,false),(7,false),(8,true),(9,false),(10,true)]) (.done [(4,false),(7,false),(8,true),(9,false),(10,true)])) (by kernel_rfl) (by kernel_rfl) (fun _ _ d _ _ h=>by cases d<;>exact h) rfl (by kernel_rfl) ?_ ?_
 ·exact⟨Zcd _ _,_,hb2,rfl⟩
 intro W1 hS1;simp only[PT.wp]
 repeat((first|refine Zdg rfl rfl ⟨_,fun w' hS=>by(have hq:=hb1.grown hS.1 (by simp);have h0:=hq.cell 0;have h1:=hq.cell 1;simp at h0 h1;go_simp;exact rfl),?_⟩|refine wpPlanK_skip (by assumption) rfl rfl ?_);simp only[sx])
 refine Zhf ⟨?_,?_⟩
 ·first
   |refine Zc9 rfl rfl (fun K hK=>?_)
   |refine Zfp rfl rfl (fun K hK=>?_)
  try simp only[List.getElem_toArray,List.getElem_cons_zero,List.getElem_cons_succ]
  go_simp;obtain⟨hg1,cs,hc,hcs⟩:=hS1;refine(Zbv _ l _ (hd1.mono (Zbn hg1))).mono ?_;rintro e w2 ⟨d',rfl,hj,hown⟩;obtain⟨A',c',rfl⟩:=hown.form;have hz1:=hg1.size;have hz2:=hj.size;have hg2:=Zaf hg1 (Zak _ hj);have hc2:=hc.kept hj;refine hK.out _ _ (⟨hg2,_,hc2,hcs⟩) (fun hS=>?_);clear hK K
  try simp only[PT.wp,List.getElem_toArray,List.getElem_cons_zero,List.getElem_cons_succ,Act.put,List.setIfInBounds_toArray,List.set_cons_zero,List.set_cons_succ]
  clear hS
  first
   |refine Zc9 rfl rfl (fun K hK=>?_)
   |refine Zfp rfl rfl (fun K hK=>?_)
  try simp only[List.getElem_toArray,List.getElem_cons_zero,List.getElem_cons_succ]
  go_simp;have hn:=Blk.new w2 9 #[.string s];have hb3:=Zac w2 (.cells #[.string s] 9);have hown3:=hown.kept hb3;have hj3:=hj.trans (hb3.mono (by omega));have hn0:(w2.alloc (.cells #[.string s] 9)).cell? ⟨w2.heap.size,0,none⟩=some (encS s):=hn.cell 0;refine hK.out _ _ (⟨Zaf hg2 (Zak _ hb3),_,hc2.kept hb3,hcs⟩) (fun hS=>?_);clear hK K
  try simp only[PT.wp,List.getElem_toArray,List.getElem_cons_zero,List.getElem_cons_succ,Act.put,List.setIfInBounds_toArray,List.set_cons_zero,List.set_cons_succ]
  clear hS
  first
   |refine Zc9 rfl rfl (fun K hK=>?_)
   |refine Zfp rfl rfl (fun K hK=>?_)
  try simp only[List.getElem_toArray,List.getElem_cons_zero,List.getElem_cons_succ]
  refine Zhq (n:=140737488355328) (ys:=[s]) Zk6 Zia _ _ rfl rfl hown3 hj3 (by simp;omega) rfl (RVec.one s hn0 (by decide)) (Nat.le_refl _) (by simp;omega) (by simp;omega) (fun v4 w4 hown4 hj4=>?_);obtain⟨A4,c4,rfl⟩:=hown4.form;have hg4:=Zaf hg1 (Zak _ hj4);have hc4:=hc.kept hj4;have hz4:=hj4.size;refine hK.out _ _ (⟨hg4,_,hc4,hcs⟩) (fun hS=>?_);clear hK K
  try simp only[PT.wp,List.getElem_toArray,List.getElem_cons_zero,List.getElem_cons_succ,Act.put,List.setIfInBounds_toArray,List.set_cons_zero,List.set_cons_succ]
  clear hS
  repeat((first|refine Zdg rfl rfl ⟨_,fun w' hS=>by(skip;go_simp;exact rfl),?_⟩|refine wpPlanK_skip (by assumption) rfl rfl ?_);simp only[sx])
  first
   |refine Zc9 rfl rfl (fun K hK=>?_)
   |refine Zfp rfl rfl (fun K hK=>?_)
  try simp only[List.getElem_toArray,List.getElem_cons_zero,List.getElem_cons_succ]
  refine Zc0 rfl rfl rfl (n:=2) (by kernel_rfl) rfl hc4 hcs rfl ?_;intro w5 hb5 hg5;refine hK.out _ _ (⟨Zaf hg4 hg5,_,hb5,rfl⟩) (fun hS=>?_);clear hK K
  try simp only[PT.wp,List.getElem_toArray,List.getElem_cons_zero,List.getElem_cons_succ,Act.put,List.setIfInBounds_toArray,List.set_cons_zero,List.set_cons_succ]
  repeat((first|refine Zdg rfl rfl ⟨_,fun w' hS=>by(skip;go_simp;exact rfl),?_⟩|refine wpPlanK_skip (by assumption) rfl rfl ?_);simp only[sx])
  refine Zhf ?_;go_wp2;refine bodyPost_ret (Zal rfl rfl (by kernel_rfl) (by kernel_rfl) hb5 rfl) rfl ?_;have hA:=Zab (B:=w.heap.size) hbl (by omega) (Zaf hg4 hg5) (fun k e=>by injection e;omega);exact⟨_,rfl,hA,by simpa only [List.length_append,List.length_singleton]using(hown4.grown hg5 (by omega)).base (b':=w.heap.size) (by omega)⟩
 ·first
   |refine Zc9 rfl rfl (fun K hK=>?_)
   |refine Zfp rfl rfl (fun K hK=>?_)
  try simp only[List.getElem_toArray,List.getElem_cons_zero,List.getElem_cons_succ]
  go_simp;obtain⟨hg1,cs,hc,hcs⟩:=hS1;have hn:=Blk.new W1 9 #[.string s];have hb3:=Zac W1 (.cells #[.string s] 9);have hz1:=hg1.size;have hg2:=Zaf hg1 (Zak _ hb3);have hc2:=hc.kept hb3;refine hK.out _ _ (⟨hg2,_,hc2,hcs⟩) (fun hS=>?_);clear hK K
  try simp only[PT.wp,List.getElem_toArray,List.getElem_cons_zero,List.getElem_cons_succ,Act.put,List.setIfInBounds_toArray,List.set_cons_zero,List.set_cons_succ]
  clear hS
  first
   |refine Zc9 rfl rfl (fun K hK=>?_)
   |refine Zfp rfl rfl (fun K hK=>?_)
  try simp only[List.getElem_toArray,List.getElem_cons_zero,List.getElem_cons_succ]
  go_simp;refine(Zbv _ l _ (hd1.mono (Zbn hg2))).mono ?_;rintro e w2 ⟨d',rfl,hj,hown⟩;obtain⟨A',c',rfl⟩:=hown.form;have hz2:=hj.size;simp at hz2;have hn0:=(hn.kept hj).cell 0;simp at hn0;have hg3:=Zaf hg2 (Zak _ hj);refine hK.out _ _ (⟨hg3,_,hc2.kept hj,hcs⟩) (fun hS=>?_);clear hK K
  try simp only[PT.wp,List.getElem_toArray,List.getElem_cons_zero,List.getElem_cons_succ,Act.put,List.setIfInBounds_toArray,List.set_cons_zero,List.set_cons_succ]
  clear hS
  first
   |refine Zc9 rfl rfl (fun K hK=>?_)
   |refine Zfp rfl rfl (fun K hK=>?_)
  try simp only[List.getElem_toArray,List.getElem_cons_zero,List.getElem_cons_succ]
  refine Zhq (n:=140737488355328) (ys:=[s]) Zk6 Zia _ _ rfl rfl hown hj (by simp;omega) rfl (RVec.one s hn0 (by decide)) (Nat.le_refl _) (by simp;omega) (by simp;omega) (fun v4 w4 hown4 hj4=>?_);obtain⟨A4,c4,rfl⟩:=hown4.form;have hg4:=Zaf hg2 (Zak _ hj4);have hc4:=hc2.kept hj4;have hz4:=hj4.size;simp at hz4;refine hK.out _ _ (⟨hg4,_,hc4,hcs⟩) (fun hS=>?_);clear hK K
  try simp only[PT.wp,List.getElem_toArray,List.getElem_cons_zero,List.getElem_cons_succ,Act.put,List.setIfInBounds_toArray,List.set_cons_zero,List.set_cons_succ]
  clear hS
  repeat((first|refine Zdg rfl rfl ⟨_,fun w' hS=>by(skip;go_simp;exact rfl),?_⟩|refine wpPlanK_skip (by assumption) rfl rfl ?_);simp only[sx])
  first
   |refine Zc9 rfl rfl (fun K hK=>?_)
   |refine Zfp rfl rfl (fun K hK=>?_)
  try simp only[List.getElem_toArray,List.getElem_cons_zero,List.getElem_cons_succ]
  refine Zc0 rfl rfl rfl (n:=2) (by kernel_rfl) rfl hc4 hcs rfl ?_;intro w5 hb5 hg5;refine hK.out _ _ (⟨Zaf hg4 hg5,_,hb5,rfl⟩) (fun hS=>?_);clear hK K
  try simp only[PT.wp,List.getElem_toArray,List.getElem_cons_zero,List.getElem_cons_succ,Act.put,List.setIfInBounds_toArray,List.set_cons_zero,List.set_cons_succ]
  repeat((first|refine Zdg rfl rfl ⟨_,fun w' hS=>by(skip;go_simp;exact rfl),?_⟩|refine wpPlanK_skip (by assumption) rfl rfl ?_);simp only[sx])
  refine Zhf ?_;go_wp2;refine bodyPost_ret (Zal rfl rfl (by kernel_rfl) (by kernel_rfl) hb5 rfl) rfl ?_;have hA:=Zab (B:=w.heap.size) hbl (by omega) (Zaf hg4 hg5) (fun k e=>by injection e;omega);exact⟨_,rfl,hA,by simpa only [List.length_append,List.length_singleton]using(hown4.grown hg5 (by simp;omega)).base (b':=w.heap.size) (by simp;omega)⟩
theorem Zp5(next:Int)(v:Value)(l:List ByteArray)(s:ByteArray)(w:World)(hv:RTexts w.cell? v l)(hs:∀s∈l,s.size≤140737488355328)(hss:s.size≤140737488355328)(f:Int)(hf:addF next l s=f)(h0:f≠0)(hle:Zdp next l=0→l.length≤40) :
 Calls Tryz.prog 107 #[.agg #[.int .i64 next,v],.string s] w fun e w'=>e=.returned (.tuple #[.agg #[.int .i64 0,.slice none 0 0],.int .i64 f])∧Below w.heap.size w w':=by
 obtain⟨A,c,rfl,hlen,hel⟩:=hv.form;have Hle:=Lib.hid hle;have Hf:=Lib.hid hf;clear hel hle hf;obtain⟨p,hp⟩:∃p,Zdp next l=p:=⟨_,rfl⟩
 go_enter Tryz.func107,Tryz.ntmps107
 go_wp2_with fail
 refine(Zfx next _ l _ (hv.mono (Zaa (below_2 _ _ _))) hs).mono ?_;rintro e w1 ⟨rfl,hb1⟩;rw[hp];have Hv1:=Lib.hid (hv.mono (Zaa ((below_2 _ _ _).trans (hb1.mono (by simp;omega)))));obtain⟨hc,hf⟩:=Zyi hb1;have hz:w.heap.size+1<w1.heap.size:=by have:=hb1.size;simp at this;omega
 have hbw:Below w.heap.size w w1:=(below_2 _ _ _).trans (hb1.mono (by simp;omega));have hz0:w.heap.size<w1.heap.size:=by omega
 have hv1:=Hv1.out;clear hb1;have hr:=Hf.out;unfold addF at hr;rw[hp]at hr
 by_cases hp0:p=0
 ·subst hp0;rw[if_neg (by simp)]at hr
  go_wp2_with fail
  refine(tx_any s _ hss).mono ?_;rintro e w' ⟨rfl,rfl⟩;cases htx:txOk s
  ·rw[htx,if_neg (by simp)]at hr;subst hr;clear h0 Hf;go_wp2;refine bodyPost_ret (v:=.tuple #[.agg #[.int .i64 0,.slice none 0 0],.int .i64 1]) (by simp[results,Tryz.results107,go_sem,hc,hf,hz]) rfl ⟨rfl,?_⟩
   repeat(first
    |assumption
    |exact Below.refl _ _
    |refine Below.drew ?_
    |(refine Below.alloc ?_ ?sa _;(case sa=>first|omega|(simp;done)|(simp;omega)))
    |(refine Below.setCell ?_ ?sa _;(case sa=>first|(dsimp only;omega)|(simp;done)|(simp;omega))))
  ·rw[htx,if_pos rfl]at hr
   go_wp2_with fail
   refine(Zee _ l s _ hv1).mono ?_;rintro e w' ⟨rfl,rfl⟩;cases hht:Zcx l s
   ·rw[hht,if_neg (by simp)]at hr
    have h40:l.length=40:=by
     have:=Hle.out hp
     by_cases h:40≤l.length
     ·omega
     ·rw[if_neg h]at hr;exact absurd hr.symm h0
    rw[if_pos (by omega)]at hr;subst hr;clear h0 Hf;go_wp2;refine bodyPost_ret (v:=.tuple #[.agg #[.int .i64 0,.slice none 0 0],.int .i64 6]) (by simp[results,Tryz.results107,go_sem,hc,hf,hz]) rfl ⟨rfl,?_⟩
    repeat(first
     |assumption
     |exact Below.refl _ _
     |refine Below.drew ?_
     |(refine Below.alloc ?_ ?sa _;(case sa=>first|omega|(simp;done)|(simp;omega)))
     |(refine Below.setCell ?_ ?sa _;(case sa=>first|(dsimp only;omega)|(simp;done)|(simp;omega))))
   ·rw[hht,if_pos rfl]at hr;subst hr;clear h0 Hf;go_wp2;refine bodyPost_ret (v:=.tuple #[.agg #[.int .i64 0,.slice none 0 0],.int .i64 7]) (by simp[results,Tryz.results107,go_sem,hc,hf,hz]) rfl ⟨rfl,?_⟩
    repeat(first
     |assumption
     |exact Below.refl _ _
     |refine Below.drew ?_
     |(refine Below.alloc ?_ ?sa _;(case sa=>first|omega|(simp;done)|(simp;omega)))
     |(refine Below.setCell ?_ ?sa _;(case sa=>first|(dsimp only;omega)|(simp;done)|(simp;omega))))
 ·rw[if_pos hp0]at hr;subst hr;clear Hf;go_wp2;refine bodyPost_ret (v:=.tuple #[.agg #[.int .i64 0,.slice none 0 0],.int .i64 p]) (by simp[results,Tryz.results107,go_sem,hc,hf,hz]) rfl ⟨rfl,?_⟩
  repeat(first
   |assumption
   |exact Below.refl _ _
   |refine Below.drew ?_
   |(refine Below.alloc ?_ ?sa _;(case sa=>first|omega|(simp;done)|(simp;omega)))
   |(refine Below.setCell ?_ ?sa _;(case sa=>first|(dsimp only;omega)|(simp;done)|(simp;omega))))
def Zjo(nx:Int)(l:List ByteArray)(au:Int):Int:=if Zdp nx l≠0 then Zdp nx l else if inB au 0 3 then(if l.length=0 then 8 else if 1048576<nx then 6 else 0)else 2
def Zg8(nx:Int)(l:List ByteArray)(au:Int):Int:=if Zjo nx l au≠0 then 0 else nx+1
def Zdj(nx:Int)(l:List ByteArray)(au:Int):List ByteArray:=if Zjo nx l au≠0 then []else l.drop 4
def Zov(nx:Int)(l:List ByteArray)(au:Int):Int:=if Zjo nx l au≠0 then 0 else au
def Zou(nx:Int)(l:List ByteArray)(au:Int):Int:=if Zjo nx l au≠0 then 0 else nx
def Zmm(nx:Int)(l:List ByteArray)(au:Int):List ByteArray:=if Zjo nx l au≠0 then []else l.take 4
theorem Zoj(w:World)(c1 c2 c3:Array Value)(t1 t2 t3:TypeId)(R:World→Prop)(h:∀W,Blk W w.heap.size t1 c1→Blk W (w.heap.size+1) t2 c2→Blk W (w.heap.size+2) t3 c3→W.heap.size=w.heap.size+3→Below w.heap.size w W→R W):R (((w.alloc (.cells c1 t1)).alloc (.cells c2 t2)).alloc (.cells c3 t3)):=by
 refine h _ (((Blk.new w t1 c1).alloc _).alloc _) ?_ ?_ (by simp) ((((Below.refl _ _).alloc (Nat.le_refl _) _).alloc (Zau _ (Nat.le_refl _)) _).alloc (Zau _ (Zau _ (Nat.le_refl _))) _)
 ·have:=(Blk.new (w.alloc (.cells c1 t1)) t2 c2).alloc (.cells c3 t3);simpa using this
 ·have:=Blk.new ((w.alloc (.cells c1 t1)).alloc (.cells c2 t2)) t3 c3;simpa using this
theorem Zbl{fn:Func}{p q u:Tmp}{t2 te2:TypeId}{g2 n n2:Nat}{cur2:Array Value}{tmps:Array Value}(h:fn.results=#[.cell p t,.cell q t2,.tmp u])(hp:tmps.getD p undef=.pointer (some ⟨g,0,none⟩))(hq:tmps.getD q undef=.pointer (some ⟨g2,0,none⟩))(hagg:(isAgg t).run P w=.ok true w)(hi:(P.info? t).map (·.size)=some n)(hb:Blk w g te cur)(hn:cur.size=n)(hagg2:(isAgg t2).run P w=.ok true w)(hi2:(P.info? t2).map (·.size)=some n2)(hb2:Blk w g2 te2 cur2)(hn2:cur2.size=n2) :
 (results fn tmps).run P w=.ok (.tuple #[.agg cur,.agg cur2,tmps.getD u undef]) w:=by
 have h1:=Zdc (P:=P) hagg hi hb (o:=0) (by omega);rw[List.drop_zero,List.take_of_length_le (by simp[hn])]at h1;have h2:=Zdc (P:=P) hagg2 hi2 hb2 (o:=0) (by omega);rw[List.drop_zero,List.take_of_length_le (by simp[hn2])]at h2;have hp':tmps[p]?.getD undef=.pointer (some ⟨g,0,none⟩):=by simpa using hp
 have hq':tmps[q]?.getD undef=.pointer (some ⟨g2,0,none⟩):=by simpa using hq
 simp only[results,h];simp[Sem.run_bind,Result.andThen,hp',hq',asAddr,h1,h2]
theorem RVec.partP{n:Nat}(hr:RVec enc bs h (.slice A n c) xs){lo m:Nat}(hm:lo+m≤xs.length):RVec enc bs h (.slice (A.map fun x=>x.add lo) m (c-lo)) ((xs.drop lo).take m):=by
 obtain⟨A',c',e,h1,h2,h3,h4,h5⟩:=hr;injection e with e1 e2 e3;subst e1 e2 e3;have hl:((xs.drop lo).take m).length=m:=by simp;omega
 refine⟨_,_,by rw[hl],by omega,Nat.le_trans (Nat.sub_le _ _) h2,?_,?_,fun hp=>?_⟩
 ·rw[hl];exact Nat.le_trans (Nat.mul_le_mul_right _ (by omega)) h3
 ·intro hA;cases A with
  |none=>have:=h4 rfl;omega
  |some a=>simp at hA
 ·obtain⟨b,o,ea,hc⟩:=h5 (by omega);subst ea;refine⟨b,o+lo,by simp[Zbs],fun i hi=>?_⟩;rw[hl]at hi;have:=hc (lo+i) (by omega);rw[show o+lo+i=o+(lo+i) by omega,this];simp
theorem RVec.stubP(enc:α→Value)(bs:Nat)(h:View)(A:Option Addr){m:Nat}(hm:m=0)(hx:xs.length=m):RVec enc bs h (.slice A m 0) xs:=by
 subst hm;have:xs=[]:=List.eq_nil_of_length_eq_zero hx;subst this;exact⟨A,0,rfl,Nat.le_refl _,Nat.zero_le _,by simp,fun _=>rfl,fun h=>by simp at h⟩
theorem Zta(hg:w.grownBy w' (some g))(hgb:g<b):VLe (View.from w.cell? b) (View.from w'.cell? b):=fun a v e=>by
 unfold View.from at e⊢
 split at e
 ·cases e
 ·rename_i hne
  rw[if_neg hne]
  exact hg.cell e (by intro h;injection h;omega)
theorem Zm7(hb:Below w.heap.size w W)(hg:w.heap.size≤g):VLe w.cell? (View.but W.cell? (some g)):=fun a u hu=>by
 have hlt:=World.block_lt_of_cell? w a hu
 unfold View.but
 rw[if_neg (by intro e;injection e with e;omega)]
 exact Zaa hb _ _ hu
end Go.Proofs.YtinibgklgehdpaaGreatDoor
