/- A part of what the last text stands on. -/
import Derived.Deep.DeepCutAuto
import Derived.Deep.CutBlock
import Derived.Test.YtinibgklgehdpaaGreatDoorK01
import Derived.Test.YtinibgklgehdpaaGreatDoorK03
namespace Go.Proofs.YtinibgklgehdpaaGreatDoor
open Go.ChangeShapes Go.WideShapes Go.ChangeAt Go.RowKit Qa Qb Qc
set_option linter.all false
set_option maxHeartbeats 20000000
set_option maxRecDepth 100000
variable{P:Program}{w w' W wr:World}{a:Act}{o:Oper}{Q:Exit→Act→World→Prop}{K:Act→World→Prop}{v:Value}{h:View}{e t:TypeId}{k g b:Nat}
theorem Zf8{base n:Nat}{vy:Value}{xs ys:List UInt8}(hE:Zjx P t e 1)(s y:Operand)(ho:o.op=.call {callee:=.builtin .append,args:=#[s,y],argTypes:=#[t,t] })(hs:a.eval s=v)(hown:OwnVec encB e wr base v xs)(hbl:Below base W wr)(hbase:base≤wr.heap.size)(hx:a.eval y=vy)(hy:Zao wr.cell? vy ys)(hc:n≤140737488355328)(hn:xs.length+ys.length≤n)(h:∀v' w',OwnVec encB e w' base v' (xs++ys)→Below base W w'→wr.grownBy w' v.ownBlock→K (a.put o.dst v') w'):o.wp P a wr K Q:=by
 obtain⟨ht,i,z,hi,hz0,hz1,hz2,hzs⟩:=hE;obtain⟨A,c,rfl,_⟩:=id hy;obtain⟨_,_,_,hl,hA,hcell⟩:=hy.src;refine Zfo s y t ho base e i z 1 1 ht hi hz0 hz1 hz2 hzs (by decide) v xs.length _ hs hown.own A ys.length c (ys.map encB) hx hl hA hcell (fun u hu=>by obtain⟨x,_,rfl⟩:=List.mem_map.1 hu;exact Zb8 x) (Zbw (Nat.le_trans hn hc)) (by omega) hbase (fun v' w' ho hg=>h v' w' ⟨?_⟩ (hbl.grown hg hbase (fun g hg=>(hown.own.lt g hg).1)) hg);simpa using ho
theorem Zn4(w:World)(u:UInt8):Zao (w.alloc (.cells #[.int .u8 u.toNat] 5)).cell? (.slice (some ⟨w.heap.size,0,none⟩) 1 1) [u]:=Zn6 (enc:=encB) (bs:=1) (xs:=[u]) (Blk.new w 5 #[encB u]) (by simp) (by simp)
def Zcb(a r:Int)(b p:List (List UInt8)):List UInt8:=((Zar a::Zb9 r)++Zed b)++Zed p
theorem Zfw(w0:World)(v:Value)(xs:List UInt8)(a r:Int)(vb vp:Value)(b p:List (List UInt8))(w:World)(hbl:Below w0.heap.size w0 w)(ho:OwnB w w0.heap.size v xs)(hr0:0≤r)(hr1:r≤140737488355328)(hb:RDigs w0.cell? vb b)(hp:RDigs w0.cell? vp p)(hsz:xs.length+6+b.flatten.length+p.flatten.length≤140737488355328) :
 Calls Tryz.prog 66 #[v,.agg #[.int .i64 a,.int .i64 r,vb,vp]] w fun e w'=>∃v',e=.returned v'∧Below w0.heap.size w0 w'∧Keeps w w'∧OwnB w' w0.heap.size v' (xs++Zcb a r b p):=by
 obtain⟨oA,oc,rfl⟩:=ho.form;have hz:=hbl.size;have e0:=Zaw a;have hD:Hid (Zcb a r b p=((Zar a::Zb9 r)++Zed b)++Zed p):=rfl;generalize Zar a=U0 at e0 hD;generalize Zcb a r b p=Db at hD⊢;have hwl:(Zb9 r).length=3:=rfl;have hbl1:(Zed b).length=1+b.flatten.length:=by show(_::_).length=_;rw[List.length_cons];omega
 generalize hWr:Zb9 r=Wr at hwl hD;generalize hBd:Zed b=Bd at hbl1 hD
 go_enter Tryz.func66,Tryz.ntmps66
 go_wp2;refine Za7 _ _ _ (fun W=>(Code.region _ _ _).wp _ _ _ W) (fun W hk hszW hblW=>?_);have hkp:Keeps w W:=Zbq hblW;have ho:=ho.kept hblW;have hbl:=hbl.trans (hblW.mono hz);have hz:=hbl.size;refine Zt (fun w'=>Below W.heap.size W w') (fun w'=>Blk w' w.heap.size 51 #[.int .i64 a,.int .i64 r,vb,vp]) [15] (.q 0 (.q 1 (.q 2 (.q 3 (.q 6 (.q 7 (.q 9 (.q 10 (.q 12 (.q 13 (.l 4 (.l 5 (.l 8 (.l 11 (.l 14 (.qc 15 .nil)))))))))))))))) ?_ ?_
 ·exact⟨Zad _,hk⟩
 intro W1 hS0 hS;have ho:=ho.kept hS0;have hkp:=hkp.trans (Zbq hS0);have hbl:=hbl.trans (hS0.mono hz);have hz:=hbl.size;clear hS0 hk
 repeat((first|refine pq (h:=⟨_,fun w' hS=>by(have h0:=hS.cell 0;have h1:=hS.cell 1;have h2:=hS.cell 2;have h3:=hS.cell 3;simp at h0 h1 h2 h3;go_simp;exact rfl),?_⟩)|refine Zq ?_);simp only[sx])
 refine Zd fun K hK=>?_
 try simp only[sy]
 go_simp;refine hK.out _ _ (hS.alloc _) fun hS=>?_
 clear hK K
 try simp only[sx]
 repeat((first|refine pq (h:=⟨_,fun w' hS=>by(have h0:=hS.cell 0;have h1:=hS.cell 1;have h2:=hS.cell 2;have h3:=hS.cell 3;simp at h0 h1 h2 h3;go_simp;exact rfl),?_⟩)|refine Zq ?_);simp only[sx])
 refine Zd fun K hK=>?_
 try simp only[sy]
 have hrow:=Zn4 W1 U0;have hoa:=ho.alloc (.cells #[.int .u8 U0.toNat] 5);refine Zf8 (n:=140737488355328) (W:=w0) (xs:=xs) (ys:=[U0]) (v:=.slice oA xs.length oc) (vy:=.slice (some ⟨W1.heap.size,0,none⟩) 1 1) Za9 _ _ rfl rfl hoa (hbl.alloc hz _) (Zau _ hz) rfl hrow (by decide) (by simp;omega) ?_;intro v1 w1 o1 b1 g1;have k0:=Zat hoa g1;have k1:=(Zcp W1 (.cells #[.int .u8 U0.toNat] 5)).trans k0;have z1:=b1.size;clear g1 hoa hrow;refine hK.out _ _ (k0 _ _ _ (by decide) hS) fun hS=>?_
 clear hK K
 try simp only[sx]
 repeat((first|refine pq (h:=⟨_,fun w' hS=>by(have h0:=hS.cell 0;have h1:=hS.cell 1;have h2:=hS.cell 2;have h3:=hS.cell 3;simp at h0 h1 h2 h3;go_simp;exact rfl),?_⟩)|refine Zq ?_);simp only[sx])
 refine Zd fun K hK=>?_
 try simp only[sy]
 go_simp;refine(Zfq v1 r (xs++[U0]) _ _ o1 z1 hr0 hr1 (by simp;omega)).mono ?_;rintro e w2 ⟨v2,rfl,b2,k2,o2,_⟩;rw[hWr]at o2;have b2:=b1.trans b2;clear o1 b1;refine hK.out _ _ (k2 _ _ _ (by decide) hS) fun hS=>?_
 clear hK K
 try simp only[sx]
 repeat((first|refine pq (h:=⟨_,fun w' hS=>by(have h0:=hS.cell 0;have h1:=hS.cell 1;have h2:=hS.cell 2;have h3:=hS.cell 3;simp at h0 h1 h2 h3;go_simp;exact rfl),?_⟩)|refine Zq ?_);simp only[sx])
 refine Zd fun K hK=>?_
 try simp only[sy]
 go_simp;refine(Zha w0 v2 vb _ b _ b2 o2 hb (by simp only[List.length_append,List.length_cons,List.length_nil];omega)).mono ?_;rintro e w3 ⟨v3,rfl,b3,k3,o3⟩;rw[hBd]at o3;clear o2 b2;refine hK.out _ _ (k3 _ _ _ (by decide) hS) fun hS=>?_
 clear hK K
 try simp only[sx]
 repeat((first|refine pq (h:=⟨_,fun w' hS=>by(have h0:=hS.cell 0;have h1:=hS.cell 1;have h2:=hS.cell 2;have h3:=hS.cell 3;simp at h0 h1 h2 h3;go_simp;exact rfl),?_⟩)|refine Zq ?_);simp only[sx])
 refine Zd fun K hK=>?_
 try simp only[sy]
 go_simp;refine(Zha w0 v3 vp _ p _ b3 o3 hp (by simp only[List.length_append,List.length_cons,List.length_nil];omega)).mono ?_;rintro e w4 ⟨v4,rfl,b4,k4,o4⟩;clear o3 b3;refine hK.out _ _ (k4 _ _ _ (by decide) hS) fun hS=>?_
 clear hK K
 try simp only[sx]
 repeat((first|refine pq (h:=⟨_,fun w' hS=>by(have h0:=hS.cell 0;have h1:=hS.cell 1;have h2:=hS.cell 2;have h3:=hS.cell 3;simp at h0 h1 h2 h3;go_simp;exact rfl),?_⟩)|refine Zq ?_);simp only[sx])
 refine Zah ?_;go_wp2;go_ret;exact⟨_,rfl,b4,(((hkp.trans k1).trans k2).trans k3).trans k4,by rw[hD.out];simpa using o4⟩
def inB(n lo hi:Int):Bool:=decide (lo≤n∧n≤hi)
theorem Za4(n:Int)(w:World):Calls Tryz.prog 62 #[.int .i64 n] w fun e w'=>e=.returned (.bool (inB n 0 3))∧w=w':=by
 go_enter Tryz.func62,Tryz.ntmps62
 by_cases h1:0≤n<;>by_cases h2:n<4
 all_goals
  have hB:inB n 0 3=decide (0≤n∧n≤3):=rfl;go_wp2;go_ret;exact⟨Zap (by simp[inB];try omega),rfl⟩
theorem count_any(n:Int)(w:World):Calls Tryz.prog 63 #[.int .i64 n] w fun e w'=>e=.returned (.bool (inB n 1 1048576))∧w=w':=by
 go_enter Tryz.func63,Tryz.ntmps63
 by_cases h1:1≤n<;>by_cases h2:n≤1048576
 all_goals
  have hB:inB n 1 1048576=decide (1≤n∧n≤1048576):=rfl;go_wp2;go_ret;exact⟨Zap (by simp[inB];try omega),rfl⟩
def txOk(s:ByteArray):Bool:=decide (1≤s.size∧s.size≤20)
def Zcq(au nu:Int)(l:List ByteArray):Int:=if !inB au 0 3|| !inB nu 1 1048576 then 2 else if l.length<1∨4<l.length then 1 else if l.all txOk then 0 else 1
theorem RTexts.form{xs:List ByteArray}(hr:RTexts h v xs):∃A c,v=.slice A xs.length c∧xs.length*16≤140737488355328∧∀k (hk:k<xs.length),∃b o,A=some ⟨b,o,none⟩∧h ⟨b,o+k,none⟩=some (.string xs[k]):=by
 obtain⟨A,c,e,_,_,h3,_,h5⟩:=hr;refine⟨A,c,e,h3,fun k hk=>?_⟩;obtain⟨b,o,ea,hc⟩:=h5 (by omega);exact⟨b,o,ea,hc k hk⟩
theorem all_ok{l:List ByteArray}(h:∀j (hj:j<l.length),txOk l[j]=true):l.all txOk=true:=by
 rw[List.all_eq_true];intro x hx;obtain⟨i,hi,rfl⟩:=List.getElem_of_mem hx;exact h i hi
theorem Zwa{l:List ByteArray}(hk:k<l.length)(h:txOk l[k]=false):l.all txOk=false:=by
 rw[List.all_eq_false];exact⟨l[k],List.getElem_mem hk,by simp[h]⟩
theorem Zhc(au nu:Int)(v:Value)(l:List ByteArray)(w:World)(hv:RTexts w.cell? v l)(hs:∀s∈l,s.size≤140737488355328) :
 Calls Tryz.prog 34 #[.agg #[.int .i64 au,.int .i64 nu,v]] w fun e w'=>e=.returned (.int .i64 (Zcq au nu l))∧Below w.heap.size w w':=by
 obtain⟨A,c,rfl,hlen,hel⟩:=hv.form;have Hel:=Lib.hid hel;have Hs:=Lib.hid hs;clear hel hv hs;have hq:∀x,Zcq au nu l=x→Hid (Zcq au nu l=x):=fun x h=>h
 cases ha:inB au 0 3
 ·have Hq:=hq 2 (by simp[Zcq,ha]);clear hq
  go_enter Tryz.func34,Tryz.ntmps34
  go_wp2_with (first|(go_at_call 62;refine(Za4 _ _).mono ?_;rintro e w' ⟨rfl,rfl⟩)|(go_at_call 63;refine(count_any _ _).mono ?_;rintro e w' ⟨rfl,rfl⟩))
  go_ret;exact⟨Zaj Hq.out.symm,(Below.refl _ _).alloc (Nat.le_refl _) _⟩
 cases hb:inB nu 1 1048576
 ·have Hq:=hq 2 (by simp[Zcq,ha,hb]);clear hq
  go_enter Tryz.func34,Tryz.ntmps34
  go_wp2_with (first|(go_at_call 62;refine(Za4 _ _).mono ?_;rintro e w' ⟨rfl,rfl⟩)|(go_at_call 63;refine(count_any _ _).mono ?_;rintro e w' ⟨rfl,rfl⟩))
  go_ret;exact⟨Zaj Hq.out.symm,(Below.refl _ _).alloc (Nat.le_refl _) _⟩
 by_cases hl1:l.length<1
 ·have hl0:l.length<1∨4<l.length:=.inl hl1;have Hq:=hq 1 (by simp only[Zcq,ha,hb];rw[if_neg (by simp),if_pos hl0]);clear hl0 hq;have h0:l.length=0:=by omega
  rw[h0];clear hl1
  go_enter Tryz.func34,Tryz.ntmps34
  go_wp2_with (first|(go_at_call 62;refine(Za4 _ _).mono ?_;rintro e w' ⟨rfl,rfl⟩)|(go_at_call 63;refine(count_any _ _).mono ?_;rintro e w' ⟨rfl,rfl⟩))
  go_ret;exact⟨Zaj Hq.out.symm,(Below.refl _ _).alloc (Nat.le_refl _) _⟩
 by_cases hl4:4<l.length
 ·have hl0:l.length<1∨4<l.length:=.inr hl4;have Hq:=hq 1 (by simp only[Zcq,ha,hb];rw[if_neg (by simp),if_pos hl0]);clear hl0 hq
  go_enter Tryz.func34,Tryz.ntmps34
  go_wp2_with (first|(go_at_call 62;refine(Za4 _ _).mono ?_;rintro e w' ⟨rfl,rfl⟩)|(go_at_call 63;refine(count_any _ _).mono ?_;rintro e w' ⟨rfl,rfl⟩))
  go_ret;exact⟨Zaj Hq.out.symm,(Below.refl _ _).alloc (Nat.le_refl _) _⟩
 have hq':Hid (Zcq au nu l=if l.all txOk then 0 else 1):=by
  show _=_;simp only[Zcq,ha,hb];rw[if_neg (by simp),if_neg (by omega)]
 clear hq
 go_enter Tryz.func34,Tryz.ntmps34
 go_wp2_with (first|(go_at_call 62;refine(Za4 _ _).mono ?_;rintro e w' ⟨rfl,rfl⟩)|(go_at_call 63;refine(count_any _ _).mono ?_;rintro e w' ⟨rfl,rfl⟩))
 go_loop [28] (fun i=>∃k:Nat,k≤l.length∧i=.int .i64 k∧Hid (∀j (hj:j<l.length),j<k→txOk l[j]=true)) (fun i=>l.length-(intOf i).toNat)
 case atStart=>exact⟨0,Nat.zero_le _,rfl,fun j _ hj=>by omega⟩
 case round =>
  obtain⟨k,hk,rfl,hok⟩:=hrel
  by_cases hlt:k<l.length
  ·obtain⟨b0,o0,rfl,hcell'⟩:=Hel.out k hlt;have hcell:=Zgz hcell';clear hcell';have hsk:=Hs.out l[k] (List.getElem_mem hlt)
   by_cases h1:l[k].size<1
   ·have hbad:txOk l[k]=false:=by simp[txOk];omega
    have Hbad:=Lib.hid hbad;clear hbad;go_wp2;go_ret;exact⟨Zaj (by rw[hq'.out,Zwa hlt Hbad.out];rfl),(Below.refl _ _).alloc (Nat.le_refl _) _⟩
   by_cases h2:20<l[k].size
   ·have hbad:txOk l[k]=false:=by simp[txOk];omega
    have Hbad:=Lib.hid hbad;clear hbad;go_wp2;go_ret;exact⟨Zaj (by rw[hq'.out,Zwa hlt Hbad.out];rfl),(Below.refl _ _).alloc (Nat.le_refl _) _⟩
   ·have hgood:txOk l[k]=true:=by simp[txOk];omega
    have Hgood:=Lib.hid hgood;clear hgood;go_wp2;go_round
    case rel=>exact⟨k+1,by omega,by go_num,fun j hj hjk=>by
     by_cases e:j=k
     ·subst e;exact Hgood.out
     ·exact hok.out j hj (by omega)⟩
    case measure=>simp[intOf];omega
  ·go_wp2;go_ret;exact⟨Zaj (by rw[hq'.out,all_ok (fun j hj=>hok.out j hj (by omega))];rfl),(Below.refl _ _).alloc (Nat.le_refl _) _⟩
theorem Zb0{base n:Nat}{xs:List UInt8}(u:UInt8)(hE:Zjx P t e 1)(s y:Operand)(ho:o.op=.call {callee:=.builtin .append,args:=#[s,y],argTypes:=#[t,t] })(hs:a.eval s=v)(hown:OwnVec encB e wr base v xs)(hbl:Below base W wr)(hbase:base≤wr.heap.size){gy:Nat}(hx:a.eval y=.slice (some ⟨gy,0,none⟩) 1 1)(hcu:wr.cell? ⟨gy,0,none⟩=some (encB u))(hc:n≤140737488355328)(hn:xs.length+1≤n)(h:∀v' w',OwnVec encB e w' base v' (xs++[u])→Below base W w'→wr.grownBy w' v.ownBlock→(v'.ownBlock=v.ownBlock∨v'.ownBlock=some wr.heap.size)→K (a.put o.dst v') w'):o.wp P a wr K Q:=by
 obtain⟨ht,i,z,hi,hz0,hz1,hz2,hzs⟩:=hE
 have hnews:∀j u',[encB u][j]?=some u'→wr.cell? ((⟨gy,0,none⟩:Addr).add j)=some u':=fun j u' hu=>by
  cases j with
  |zero=>simp at hu;subst hu;rw[Zbs];exact hcu
  |succ j=>simp at hu
 have h1':∀u'∈[encB u],u'.oneCell'=true:=fun u' hu=>by rw[List.mem_singleton.1 hu];rfl
 obtain⟨v',w',hr,hro,hg⟩:=Zc2 (P:=P) wr base t o.type e i z 1 1 ht hi hz0 hz1 hz2 hzs (by decide) v xs.length (xs.map encB) hown.own (some ⟨gy,0,none⟩) 1 1 [encB u] rfl (fun h=>by cases h)
  (fun ad had=>by obtain rfl:=Option.some.inj had;exact hnews) h1' (Zbw (Nat.le_trans hn hc)) (by omega) hbase
 have hloc:=Zg1 (P:=P) wr base t o.type e i z 1 1 ht hi hz0 hz1 hz2 v xs.length (xs.map encB) hown.own ⟨gy,0,none⟩ 1 1 [encB u] rfl hnews h1' (by decide) (Nat.le_trans hn hc) (by omega) hr;unfold Oper.wp execOp;simp[ho,resolve,invoke,builtin,hs,hx,hr,Result.andThen,Oper.upon];refine h v' w' ⟨?_⟩ (hbl.grown hg hbase (fun g hg=>(hown.own.lt g hg).1)) hg hloc;simpa using hro
theorem Zdf(w:World)(u:UInt8)(R:World→Prop)(h:∀W,W.cell? ⟨w.heap.size,0,none⟩=some (encB u)→W.heap.size=w.heap.size+1→Below w.heap.size w W→R W):R (w.alloc (.cells #[.int .u8 u.toNat] 5)) :=
 h _ ((Blk.new w 5 #[encB u]).cell 0) (by simp) (Zac _ _)
theorem Zo3{B:Nat}{xs:List UInt8}(ho:OwnB w B v xs):¬(some w.heap.size=v.ownBlock):=fun e=>by
 have:=(ho.own.lt _ e.symm).2;omega
theorem Zys{n:Nat}{v':Value}(h:¬(some g=v.ownBlock))(hl:v'.ownBlock=v.ownBlock∨v'.ownBlock=some n)(hg:g<n):¬(some g=v'.ownBlock):=fun e=>by
 rcases hl with hl|hl
 ·exact h (e.trans hl)
 ·rw[hl]at e;injection e with e;omega
def Zbf(l:List ByteArray):List UInt8:=(l.map fun s=>Zar s.size::Zca s).flatten
def Zfd(a n:Int)(l:List ByteArray):List UInt8:=((Zar a::Zb9 n)++[Zar l.length])++Zbf l
theorem Zmd(l:List ByteArray)(hk:k<l.length):Zbf (l.take (k+1))=Zbf (l.take k)++([Zar l[k].size]++Zca l[k]):=by
 unfold Zbf;rw[List.take_succ_eq_append_getElem hk,List.map_append,List.flatten_append,List.map_singleton,List.flatten_singleton];rfl
theorem texts_len(l:List ByteArray)(hk:k<l.length):(Zbf (l.take k)).length+1+l[k].size≤(Zbf l).length:=by
 have h2:Zbf l=Zbf (l.take (k+1))++Zbf (l.drop (k+1)):=by
  unfold Zbf;rw[←List.flatten_append,←List.map_append,List.take_append_drop]
 rw[h2,Zmd l hk];simp only[List.length_append,List.length_cons,List.length_nil,Zch];omega
theorem Zjg(w0:World)(v:Value)(xs:List UInt8)(a n:Int)(vl:Value)(l:List ByteArray)(w:World)(hbl:Below w0.heap.size w0 w)(ho:OwnB w w0.heap.size v xs)(hr0:0≤n)(hr1:n≤140737488355328)(hl:RTexts w0.cell? vl l)(hsz:xs.length+5+(Zbf l).length≤140737488355328) :
 Calls Tryz.prog 36 #[v,.agg #[.int .i64 a,.int .i64 n,vl]] w fun e w'=>∃v',e=.returned v'∧Below w0.heap.size w0 w'∧Keeps w w'∧OwnB w' w0.heap.size v' (xs++Zfd a n l):=by
 obtain⟨oA,oc,rfl⟩:=ho.form;obtain⟨A,c,rfl,hlen,hel⟩:=hl.form;have Hel:=Lib.hid hel;clear hel hl;have hz:=hbl.size;have e0:=Zaw a;have e1:=Zaw l.length;have hD:Hid (Zfd a n l=((Zar a::Zb9 n)++[Zar l.length])++Zbf l):=rfl;generalize Zar a=U0 at e0 hD;generalize Zar l.length=U1 at e1 hD;generalize Zfd a n l=Db at hD⊢;have hwl:(Zb9 n).length=3:=rfl;generalize hWr:Zb9 n=Wr at hwl hD;obtain⟨Y,hY⟩:∃Y,Hid (xs++[U0]++Wr++[U1]=Y):=⟨_,rfl⟩;have hYl:Y.length=xs.length+5:=by rw[←hY.out];simp only[List.length_append,List.length_cons,List.length_nil];omega
 go_enter Tryz.func36,Tryz.ntmps36
 go_upto_region 1 with fail
 refine Zo fun W hk hszW hblW=>?_
 have hkp:Keeps w W:=Zbq hblW;have ho:=ho.kept hblW;have hbl:=hbl.trans (hblW.mono hz);have hz:=hbl.size
 go_cut [0] (fun v w'=>Blk w' w.heap.size 53 #[.int .i64 a,.int .i64 n,.slice A l.length c]∧Keeps w w'∧Below w0.heap.size w0 w'∧OwnB w' w0.heap.size v Y)
 case first =>
  refine Zt (fun w'=>Below W.heap.size W w') (fun w'=>Blk w' w.heap.size 53 #[.int .i64 a,.int .i64 n,.slice A l.length c]) [15] (.q 0 (.q 1 (.q 2 (.q 3 (.q 6 (.q 7 (.q 9 (.q 10 (.q 11 (.q 12 (.alt 4 (.alt 5 (.alt 8 (.l 13 (.l 14 (.qc 15 .nil))) 13 (.l 8 (.l 14 (.qc 15 .nil)))) 13 (.l 5 (.l 8 (.l 14 (.qc 15 .nil))))) 13 (.l 4 (.l 5 (.l 8 (.l 14 (.qc 15 .nil)))))))))))))))) ?_ ?_
  ·exact⟨Zad _,hk⟩
  intro W1 hS0 hS;have ho:=ho.kept hS0;have hkp:=hkp.trans (Zbq hS0);have hbl:=hbl.trans (hS0.mono hz);have hz:=hbl.size;clear hS0 hk
  -- ORDERS
  repeat((first|refine pq (h:=⟨_,fun w' hS=>by(have h0:=hS.cell 0;have h1:=hS.cell 1;have h2:=hS.cell 2;simp at h0 h1 h2;go_simp;exact rfl),?_⟩)|refine Zq ?_);simp only[sx])
  refine Zcl ?_ ?_
  ·
   refine Zd fun K hK=>?_
   try simp only[sy]
   go_simp;refine Zdf _ U0 (fun W=>K _ W) (fun wn cA zn bn=>?_);refine hK.out _ _ (hS.kept bn) fun hS=>?_
   clear hK K
   try simp only[sx]
   have ho:=ho.kept bn;have hkp:=hkp.trans (Zbq bn);have hbl:=hbl.trans (bn.mono hz);have hz:=hbl.size;have hgt:=Nat.lt_of_succ_le (Nat.le_of_eq zn.symm);clear bn zn;refine Zcl ?_ ?_
   ·
    refine Zd fun K hK=>?_
    try simp only[sy]
    refine Zb0 (n:=140737488355328) (W:=w0) (xs:=xs) U0 Za9 _ _ rfl rfl ho hbl hz rfl cA (by decide) (by omega) (fun v1 wn on bn gn ln=>?_);refine hK.out _ _ (Zat ho gn _ _ _ (by decide) hS) fun hS=>?_
    clear hK K
    try simp only[sx]
    have hkp:=hkp.trans (Zat ho gn);have ho:=on;have hbl:=bn;have hz:=hbl.size;clear gn on bn ln cA;refine Zcl ?_ ?_
    ·
     refine Zd fun K hK=>?_
     try simp only[sy]
     go_simp;refine(Zfq v1 n (xs++[U0]) _ _ ho hz hr0 hr1 (by simp;omega)).mono ?_;rintro e wn ⟨v2,rfl,bn,kn,on,gn⟩;rw[hWr]at on;refine hK.out _ _ (kn _ _ _ (by decide) hS) fun hS=>?_
     clear hK K
     try simp only[sx]
     have hkp:=hkp.trans kn;have hbl:=hbl.trans bn;have hz:=hbl.size;have ho:=on;clear gn on bn kn;refine Zd fun K hK=>?_
     try simp only[sy]
     go_simp;refine Zdf _ U1 (fun W=>K _ W) (fun wn cD zn bn=>?_);refine hK.out _ _ (hS.kept bn) fun hS=>?_
     clear hK K
     try simp only[sx]
     have hneD:=Zo3 ho;have ho:=ho.kept bn;have hkp:=hkp.trans (Zbq bn);have hbl:=hbl.trans (bn.mono hz);have hz:=hbl.size;have hgt:=Nat.lt_of_succ_le (Nat.le_of_eq zn.symm);clear bn zn;refine Zd fun K hK=>?_
     try simp only[sy]
     refine Zb0 (n:=140737488355328) (W:=w0) (xs:=xs++[U0]++Wr) U1 Za9 _ _ rfl rfl ho hbl hz rfl cD (by decide) (by simp only[List.length_append,List.length_cons,List.length_nil];omega) (fun v3 wn on bn gn ln=>?_);refine hK.out _ _ (Zat ho gn _ _ _ (by decide) hS) fun hS=>?_
     clear hK K
     try simp only[sx]
     have hkp:=hkp.trans (Zat ho gn)
     repeat((first|refine pq (h:=⟨_,fun w' hS=>by(have h0:=hS.cell 0;have h1:=hS.cell 1;have h2:=hS.cell 2;simp at h0 h1 h2;go_simp;exact rfl),?_⟩)|refine Zq ?_);simp only[sx])
     refine Zah ?_;go_wp2;go_meet;exact⟨hS,hkp,bn,by rw[hY.out]at on;exact on⟩
    ·
     refine Zd fun K hK=>?_
     try simp only[sy]
     go_simp;refine Zdf _ U1 (fun W=>K _ W) (fun wn cD zn bn=>?_);refine hK.out _ _ (hS.kept bn) fun hS=>?_
     clear hK K
     try simp only[sx]
     have hneD:=Zo3 ho;have ho:=ho.kept bn;have hkp:=hkp.trans (Zbq bn);have hbl:=hbl.trans (bn.mono hz);have hz:=hbl.size;have hgt:=Nat.lt_of_succ_le (Nat.le_of_eq zn.symm);clear bn zn;refine Zd fun K hK=>?_
     try simp only[sy]
     go_simp;refine(Zfq v1 n (xs++[U0]) _ _ ho hz hr0 hr1 (by simp;omega)).mono ?_;rintro e wn ⟨v2,rfl,bn,kn,on,gn⟩;rw[hWr]at on;refine hK.out _ _ (kn _ _ _ (by decide) hS) fun hS=>?_
     clear hK K
     try simp only[sx]
     have hkp:=hkp.trans kn;have hbl:=hbl.trans bn;have hz:=hbl.size;have cD:=gn.cell cD hneD;have ho:=on;clear gn on bn kn;refine Zd fun K hK=>?_
     try simp only[sy]
     refine Zb0 (n:=140737488355328) (W:=w0) (xs:=xs++[U0]++Wr) U1 Za9 _ _ rfl rfl ho hbl hz rfl cD (by decide) (by simp only[List.length_append,List.length_cons,List.length_nil];omega) (fun v3 wn on bn gn ln=>?_);refine hK.out _ _ (Zat ho gn _ _ _ (by decide) hS) fun hS=>?_
     clear hK K
     try simp only[sx]
     have hkp:=hkp.trans (Zat ho gn)
     repeat((first|refine pq (h:=⟨_,fun w' hS=>by(have h0:=hS.cell 0;have h1:=hS.cell 1;have h2:=hS.cell 2;simp at h0 h1 h2;go_simp;exact rfl),?_⟩)|refine Zq ?_);simp only[sx])
     refine Zah ?_;go_wp2;go_meet;exact⟨hS,hkp,bn,by rw[hY.out]at on;exact on⟩
   ·
    refine Zd fun K hK=>?_
    try simp only[sy]
    go_simp;refine Zdf _ U1 (fun W=>K _ W) (fun wn cD zn bn=>?_);refine hK.out _ _ (hS.kept bn) fun hS=>?_
    clear hK K
    try simp only[sx]
    have cA:=Zaa bn _ _ cA;have hneD:=Zo3 ho;have ho:=ho.kept bn;have hkp:=hkp.trans (Zbq bn);have hbl:=hbl.trans (bn.mono hz);have hz:=hbl.size;have hgt:=Nat.lt_of_succ_le (Nat.le_of_eq zn.symm);clear bn zn;refine Zd fun K hK=>?_
    try simp only[sy]
    refine Zb0 (n:=140737488355328) (W:=w0) (xs:=xs) U0 Za9 _ _ rfl rfl ho hbl hz rfl cA (by decide) (by omega) (fun v1 wn on bn gn ln=>?_);refine hK.out _ _ (Zat ho gn _ _ _ (by decide) hS) fun hS=>?_
    clear hK K
    try simp only[sx]
    have hkp:=hkp.trans (Zat ho gn);have cD:=gn.cell cD hneD;have hneD:=Zys hneD ln (by omega);have ho:=on;have hbl:=bn;have hz:=hbl.size;clear gn on bn ln cA;refine Zd fun K hK=>?_
    try simp only[sy]
    go_simp;refine(Zfq v1 n (xs++[U0]) _ _ ho hz hr0 hr1 (by simp;omega)).mono ?_;rintro e wn ⟨v2,rfl,bn,kn,on,gn⟩;rw[hWr]at on;refine hK.out _ _ (kn _ _ _ (by decide) hS) fun hS=>?_
    clear hK K
    try simp only[sx]
    have hkp:=hkp.trans kn;have hbl:=hbl.trans bn;have hz:=hbl.size;have cD:=gn.cell cD hneD;have ho:=on;clear gn on bn kn;refine Zd fun K hK=>?_
    try simp only[sy]
    refine Zb0 (n:=140737488355328) (W:=w0) (xs:=xs++[U0]++Wr) U1 Za9 _ _ rfl rfl ho hbl hz rfl cD (by decide) (by simp only[List.length_append,List.length_cons,List.length_nil];omega) (fun v3 wn on bn gn ln=>?_);refine hK.out _ _ (Zat ho gn _ _ _ (by decide) hS) fun hS=>?_
    clear hK K
    try simp only[sx]
    have hkp:=hkp.trans (Zat ho gn)
    repeat((first|refine pq (h:=⟨_,fun w' hS=>by(have h0:=hS.cell 0;have h1:=hS.cell 1;have h2:=hS.cell 2;simp at h0 h1 h2;go_simp;exact rfl),?_⟩)|refine Zq ?_);simp only[sx])
    refine Zah ?_;go_wp2;go_meet;exact⟨hS,hkp,bn,by rw[hY.out]at on;exact on⟩
  ·
   refine Zd fun K hK=>?_
   try simp only[sy]
   go_simp;refine Zdf _ U1 (fun W=>K _ W) (fun wn cD zn bn=>?_);refine hK.out _ _ (hS.kept bn) fun hS=>?_
   clear hK K
   try simp only[sx]
   have hneD:=Zo3 ho;have ho:=ho.kept bn;have hkp:=hkp.trans (Zbq bn);have hbl:=hbl.trans (bn.mono hz);have hz:=hbl.size;have hgt:=Nat.lt_of_succ_le (Nat.le_of_eq zn.symm);clear bn zn;refine Zd fun K hK=>?_
   try simp only[sy]
   go_simp;refine Zdf _ U0 (fun W=>K _ W) (fun wn cA zn bn=>?_);refine hK.out _ _ (hS.kept bn) fun hS=>?_
   clear hK K
   try simp only[sx]
   have cD:=Zaa bn _ _ cD;have ho:=ho.kept bn;have hkp:=hkp.trans (Zbq bn);have hbl:=hbl.trans (bn.mono hz);have hz:=hbl.size;have hgt:=Nat.lt_of_succ_le (Nat.le_of_eq zn.symm);clear bn zn;refine Zd fun K hK=>?_
   try simp only[sy]
   refine Zb0 (n:=140737488355328) (W:=w0) (xs:=xs) U0 Za9 _ _ rfl rfl ho hbl hz rfl cA (by decide) (by omega) (fun v1 wn on bn gn ln=>?_);refine hK.out _ _ (Zat ho gn _ _ _ (by decide) hS) fun hS=>?_
   clear hK K
   try simp only[sx]
   have hkp:=hkp.trans (Zat ho gn);have cD:=gn.cell cD hneD;have hneD:=Zys hneD ln (by omega);have ho:=on;have hbl:=bn;have hz:=hbl.size;clear gn on bn ln cA;refine Zd fun K hK=>?_
   try simp only[sy]
   go_simp;refine(Zfq v1 n (xs++[U0]) _ _ ho hz hr0 hr1 (by simp;omega)).mono ?_;rintro e wn ⟨v2,rfl,bn,kn,on,gn⟩;rw[hWr]at on;refine hK.out _ _ (kn _ _ _ (by decide) hS) fun hS=>?_
   clear hK K
   try simp only[sx]
   have hkp:=hkp.trans kn;have hbl:=hbl.trans bn;have hz:=hbl.size;have cD:=gn.cell cD hneD;have ho:=on;clear gn on bn kn;refine Zd fun K hK=>?_
   try simp only[sy]
   refine Zb0 (n:=140737488355328) (W:=w0) (xs:=xs++[U0]++Wr) U1 Za9 _ _ rfl rfl ho hbl hz rfl cD (by decide) (by simp only[List.length_append,List.length_cons,List.length_nil];omega) (fun v3 wn on bn gn ln=>?_);refine hK.out _ _ (Zat ho gn _ _ _ (by decide) hS) fun hS=>?_
   clear hK K
   try simp only[sx]
   have hkp:=hkp.trans (Zat ho gn)
   repeat((first|refine pq (h:=⟨_,fun w' hS=>by(have h0:=hS.cell 0;have h1:=hS.cell 1;have h2:=hS.cell 2;simp at h0 h1 h2;go_simp;exact rfl),?_⟩)|refine Zq ?_);simp only[sx])
   refine Zah ?_;go_wp2;go_meet;exact⟨hS,hkp,bn,by rw[hY.out]at on;exact on⟩
  -- END ORDERS
 case rest =>
  clear ho hbl hz hkp;obtain⟨hk2,hkp,hbl,ho⟩:=hcut;obtain⟨yA,yc,rfl⟩:=ho.form;have c2:=hk2.cell 2;simp at c2;have c2:wc.cell? ⟨w.heap.size,2,none⟩=some (.slice A l.length c):=c2;clear hk2 hk hblW;go_wp2
  go_loopw [0,25] (fun v i wr=>∃k:Nat,k≤l.length∧i=.int .i64 k∧OwnB wr w0.heap.size v (Y++Zbf (l.take k))∧Below w0.heap.size w0 wr∧Keeps w wr) (fun _ i _=>l.length-(intOf i).toNat)
  case atStart=>exact⟨0,Nat.zero_le _,rfl,by simpa[Zbf]using ho,hbl,hkp⟩
  case round =>
   clear ho hbl hkp c2;obtain⟨k,hk,rfl,hown,hbl,hkp⟩:=hrel;have hz:=hbl.size
   by_cases hlt:k<l.length
   ·obtain⟨b0,o0,rfl,q0⟩:=Hel.out k hlt;have c0:=Zaa hbl _ _ q0;have hnl:=texts_len l hlt;have Hn:=Lib.hid (Zmd l hlt);have e2:=Zaw l[k].size;clear q0;generalize Zar l[k].size=U2 at e2 Hn;generalize Zbf (l.take k)=Z at hown Hn hnl;generalize l[k]=p at Hn hnl c0 e2
    go_wp2_with (at_builtin;first
     |(refine Za5 (n:=140737488355328) (W:=w0) (ys:=[U2]) Za9 Zb8 _ _ rfl rfl rfl (hown.alloc _) (hbl.alloc hz _) (Zau _ hz) rfl (Zn6 (xs:=[U2]) (Blk.new _ _ _) (by simp) (by simp)) (by decide) (by simp;omega) (by simp;omega) ?_))
    intro v1 w1 o1 b1 g1;have k1:=(Zcp wr (.cells #[encB U2] 5)).trans (Zat (hown.alloc _) g1);have z1:=b1.size;clear g1 hown
    go_wp2_with (at_builtin;go_loud (refine Zii (n:=140737488355328) (W:=w0) p Za9 Tryz.underlying9 _ _ rfl rfl rfl rfl o1 b1 z1 (by decide) (by simp only[List.length_append,List.length_cons,List.length_nil];omega) ?_))
    intro v2 w2 o2 b2 g2;have k2:=(hkp.trans k1).trans (Zat o1 g2);clear g2 o1;go_wp2;go_roundw
    case rel=>exact⟨k+1,by omega,by go_num,by rw[Hn.out];simpa using o2,b2,k2⟩
    case measure=>simp[intOf];omega
   ·have hkl:k=l.length:=by omega
    subst hkl;rw[List.take_length]at hown;have hfin:OwnB wr w0.heap.size u0 (xs++Db):=by rw[hD.out];rw[←hY.out]at hown;simpa using hown
    go_wp2;go_ret;exact⟨_,rfl,hbl,hkp,hfin⟩
def Zk3(l:List (List UInt8))(y:List UInt8):Bool:=l.any (·==y)
theorem Zvp(x y:List UInt8)(d yd:Value)(b1:Nat)(w:World)(hc:w.cell? ⟨b1,0,none⟩=some yd)(hd:Zao w.cell? d x)(hy:Zao w.cell? yd y) :
 Calls Tryz.prog 135 #[d,.pointer (some ⟨b1,0,none⟩)] w fun e w'=>e=.returned (.bool (x==y))∧w=w':=by
 go_enter Tryz.func135,Tryz.ntmps135
 go_wp2_with fail
 refine(Zb6 _ _ x y _ hd hy).mono ?_;rintro e w' ⟨rfl,rfl⟩;go_wp2;go_ret;exact⟨rfl,rfl⟩
theorem Zo9(vl:Value)(l:List (List UInt8))(y:List UInt8)(yd:Value)(b1:Nat)(w:World)(hl:RDigs w.cell? vl l)(hc:w.cell? ⟨b1,0,none⟩=some yd)(hy:Zao w.cell? yd y) :
 Calls Tryz.prog 117 #[vl,.func (.func 135) #[] #[.pointer (some ⟨b1,0,none⟩)]] w fun e w'=>∃i:Int,e=.returned (.int .i64 i)∧decide (0≤i)=Zk3 l y∧Below w.heap.size w w':=by
 obtain⟨A,c,rfl,_⟩:=id hl;obtain⟨_,hn1,hn2,hel⟩:=hl.at;have Hel:=Lib.hid hel;have Hc:=Lib.hid hc;have Hy:=Lib.hid hy;clear hl hel hy hc
 go_enter Tryz.func117,Tryz.ntmps117
 go_wp2
 go_loopw [8] (fun i wr=>∃k:Nat,k≤l.length∧i=.int .i64 k∧Hid (∀j (hj:j<l.length),j<k→(l[j]==y)=false)∧Below w.heap.size w wr) (fun i _=>l.length-(intOf i).toNat)
 case atStart=>exact⟨0,Nat.zero_le _,rfl,fun j _ hj=>by omega,Below.refl _ _⟩
 case round =>
  obtain⟨k,hk,rfl,hno,hbl⟩:=hrel
  by_cases hlt:k<l.length
  ·obtain⟨b0,o0,d,rfl,q0,hd⟩:=Hel.out k hlt;have c0:=Zaa hbl _ _ q0;have Hd:=Lib.hid (hd.mono (Zaa hbl));clear hd q0
   go_wp2_with fail
   refine(Zvp l[k] y d yd b1 _ (Zaa hbl _ _ Hc.out) Hd.out (Hy.out.mono (Zaa hbl))).mono ?_;rintro e w1 ⟨rfl,rfl⟩;cases e1:(l[k]==y)
   ·have Hb:=Lib.hid e1;clear e1;go_wp2;go_roundw
    case rel=>exact⟨k+1,by omega,by go_num,fun j hj hjk=>by
     by_cases e:j=k
     ·subst e;exact Hb.out
     ·exact hno.out j hj (by omega),hbl⟩
    case measure=>simp[intOf];omega
   ·have Hb:=Lib.hid e1;clear e1;go_wp2;go_ret;exact⟨(k:Int),rfl,by rw[show Zk3 l y=true from Zgn hlt Hb.out];simp,hbl⟩
  ·go_wp2;go_ret;exact⟨-1,rfl,by rw[show Zk3 l y=false from Zf3 fun j hj=>hno.out j hj (by omega)];rfl,hbl⟩
theorem Zld(vl:Value)(l:List (List UInt8))(y:List UInt8)(yd:Value)(b1:Nat)(w:World)(hl:RDigs w.cell? vl l)(hc:w.cell? ⟨b1,0,none⟩=some yd)(hy:Zao w.cell? yd y) :
 Calls Tryz.prog 134 #[vl,.func (.func 135) #[] #[.pointer (some ⟨b1,0,none⟩)]] w fun e w'=>e=.returned (.bool (Zk3 l y))∧Below w.heap.size w w':=by
 go_enter Tryz.func134,Tryz.ntmps134
 go_wp2_with fail
 refine(Zo9 vl l y yd b1 _ hl hc hy).mono ?_;rintro e w1 ⟨i,rfl,hi,hb⟩
 by_cases h0:0≤i
 ·have Hq:Hid (Zk3 l y=true):=hi.symm.trans (decide_eq_true h0);clear hi;go_wp2;go_ret;exact⟨Zap Hq.out.symm,hb⟩
 ·have Hq:Hid (Zk3 l y=false):=hi.symm.trans (decide_eq_false h0);clear hi;go_wp2;go_ret;exact⟨Zap (by rw[Hq.out];simp[h0]),hb⟩
theorem Zla(v:Value)(l:List (List UInt8))(w:World)(hv:RDigs w.cell? v l) :
 Calls Tryz.prog 105 #[v] w fun e w'=>e=.returned (.int .i64 (Ze0 l))∧Below w.heap.size w w':=by
 obtain⟨A,c,rfl,_⟩:=id hv;obtain⟨_,hcap,hlen,hel⟩:=hv.at;have Hel:=Lib.hid hel;have Hv:=Lib.hid hv;clear hel hv
 go_enter Tryz.func105,Tryz.ntmps105
 go_wp2
 go_loopw [7] (fun i wr=>∃k:Nat,k≤l.length∧i=.int .i64 k∧Hid (∀j,j<k→Zi7 l j=0)∧Below w.heap.size w wr) (fun i _=>l.length-(intOf i).toNat)
 case atStart=>exact⟨0,Nat.zero_le _,rfl,fun j hj=>by omega,Below.refl _ _⟩
 case round =>
  obtain⟨k,hk,rfl,hok,hbl⟩:=hrel
  by_cases hlt:k<l.length
  ·obtain⟨b0,o0,d,rfl,q0,hd⟩:=Hel.out k hlt;obtain⟨dA,dc,rfl,_⟩:=id hd;have c0:=Zaa hbl _ _ q0;have hkc:k≤c:=by omega
   have hkc':(k:Int)≤(c:Int):=by omega
   by_cases h32:l[k].length=32
   ·have Hd:=Lib.hid (hd.mono (Zaa hbl));have Hat:=Lib.hid (Zqu hlt h32);have Hsub:=Lib.hid ((Hv.out.take (k:=k) (by omega)).mono RDig.mono (Zaa hbl));clear hd q0;rw[h32]at c0;have Hd':Hid (Zao wr.cell? (.slice dA 32 dc) l[k]):=Lib.hid (by have:=Hd.out;rw[h32]at this;exact this);clear Hd
    go_wp2_with fail
    refine Za7 _ _ _ (fun W=>Calls Tryz.prog _ _ W _) (fun W hb1 hsz hbw=>?_);have g0:=hb1.cell 0;simp at g0;have hbl2:Below w.heap.size w W:=hbl.trans (hbw.mono hbl.size);refine(Zld _ (l.take k) l[k] _ _ _ (Hsub.out.mono RDig.mono (Zaa hbw)) g0 (Hd'.out.mono (Zaa hbw))).mono ?_;rintro e w1 ⟨rfl,hb2⟩;have hbl3:=hbl2.trans (hb2.mono hbl2.size);cases ht:Zk3 (l.take k) l[k]
    ·have Ht:=Lib.hid ht;clear ht;go_wp2;go_roundw
     case rel=>exact⟨k+1,by omega,by go_num,Zj5 hok.out (by rw[Hat.out];exact if_neg (by rw[show(l.take k).any (·==l[k])=false from Ht.out];decide)),hbl3⟩
     case measure=>simp[intOf];omega
    ·have Ht:=Lib.hid ht;clear ht;go_wp2;go_ret;exact⟨Zaj (Zk9 hlt hok.out (by rw[Hat.out];exact if_pos Ht.out) (by decide)).symm,hbl3⟩
   ·have Hat:=Lib.hid (Zpg hlt h32);clear hd q0;go_wp2;go_ret;exact⟨Zaj (Zk9 hlt hok.out Hat.out (by decide)).symm,hbl.trans ((Zac _ _).mono hbl.size)⟩
  ·go_wp2;go_ret;exact⟨Zaj (Ztf fun j hj=>hok.out j (by omega)).symm,hbl⟩
def Zb3(a r:Int)(b p:List (List UInt8)):Int :=
 if inB a 0 3&&inB r 1 1048576 then(if 3<b.length∨4<p.length then 1 else if Ze0 b≠0 then Ze0 b else if Ze0 p≠0 then Ze0 p else if (r=1∧0<p.length)∨(1<r∧p.length<3)then 10 else 0)else 2
theorem Zdn(a r:Int)(vb vp:Value)(b p:List (List UInt8))(w:World)(hb:RDigs w.cell? vb b)(hp:RDigs w.cell? vp p) :
 Calls Tryz.prog 79 #[.agg #[.int .i64 a,.int .i64 r,vb,vp]] w fun e w'=>e=.returned (.int .i64 (Zb3 a r b p))∧Below w.heap.size w w':=by
 obtain⟨bA,bc,rfl,_⟩:=id hb;obtain⟨pA,pc,rfl,_⟩:=id hp;obtain⟨_,hbcap,hblen,_⟩:=hb.at;obtain⟨_,hpcap,hplen,_⟩:=hp.at;have Hb:=Lib.hid hb;have Hp:=Lib.hid hp;clear hb hp;have hq:∀x,Zb3 a r b p=x→Hid (Zb3 a r b p=x):=fun x h=>h
 cases ha:inB a 0 3
 ·have Hq:=hq 2 (by simp[Zb3,ha]);clear hq
  go_enter Tryz.func79,Tryz.ntmps79
  go_wp2_with (first|(go_at_call 62;refine(Za4 _ _).mono ?_;rintro e w' ⟨rfl,rfl⟩)|(go_at_call 63;refine(count_any _ _).mono ?_;rintro e w' ⟨rfl,rfl⟩))
  go_ret;exact⟨Zaj Hq.out.symm,Zac _ _⟩
 cases hr:inB r 1 1048576
 ·have Hq:=hq 2 (by simp[Zb3,ha,hr]);clear hq
  go_enter Tryz.func79,Tryz.ntmps79
  go_wp2_with (first|(go_at_call 62;refine(Za4 _ _).mono ?_;rintro e w' ⟨rfl,rfl⟩)|(go_at_call 63;refine(count_any _ _).mono ?_;rintro e w' ⟨rfl,rfl⟩))
  go_ret;exact⟨Zaj Hq.out.symm,Zac _ _⟩
 have hr1:1≤r:=by simp[inB]at hr;omega
 by_cases h3:3<b.length
 ·have Hq:=hq 1 (by simp only[Zb3,ha,hr];rw[if_pos (by rfl),if_pos (.inl h3)]);clear hq
  go_enter Tryz.func79,Tryz.ntmps79
  go_wp2_with (first|(go_at_call 62;refine(Za4 _ _).mono ?_;rintro e w' ⟨rfl,rfl⟩)|(go_at_call 63;refine(count_any _ _).mono ?_;rintro e w' ⟨rfl,rfl⟩))
  go_ret;exact⟨Zaj Hq.out.symm,Zac _ _⟩
 by_cases h4:4<p.length
 ·have Hq:=hq 1 (by simp only[Zb3,ha,hr];rw[if_pos (by rfl),if_pos (.inr h4)]);clear hq
  go_enter Tryz.func79,Tryz.ntmps79
  go_wp2_with (first|(go_at_call 62;refine(Za4 _ _).mono ?_;rintro e w' ⟨rfl,rfl⟩)|(go_at_call 63;refine(count_any _ _).mono ?_;rintro e w' ⟨rfl,rfl⟩))
  go_ret;exact⟨Zaj Hq.out.symm,Zac _ _⟩
 have hq':Hid (Zb3 a r b p=if Ze0 b≠0 then Ze0 b else if Ze0 p≠0 then Ze0 p else if (r=1∧0<p.length)∨(1<r∧p.length<3)then 10 else 0):=by
  show _=_;simp only[Zb3,ha,hr];rw[if_pos (by rfl),if_neg (by omega)]
 clear hq;have hbb:=Zac w (.cells #[.int .i64 a,.int .i64 r,.slice bA b.length bc,.slice pA p.length pc] 51)
 go_enter Tryz.func79,Tryz.ntmps79
 go_wp2_with (first|(go_at_call 62;refine(Za4 _ _).mono ?_;rintro e w' ⟨rfl,rfl⟩)|(go_at_call 63;refine(count_any _ _).mono ?_;rintro e w' ⟨rfl,rfl⟩)|fail)
 refine Za7 _ _ _ (fun W=>Calls Tryz.prog _ _ W _) (fun W hb1 hsz hbw=>?_);have g0:=hb1.cell 0;have g1:=hb1.cell 1;have g2:=hb1.cell 2;have g3:=hb1.cell 3;simp at g0 g1 g2 g3;refine(Zla _ b _ (Hb.out.mono RDig.mono (Zaa hbw))).mono ?_;rintro e w1 ⟨rfl,hk1⟩;have hk1':=hbw.trans (hk1.mono hbw.size);have Hp1:=Lib.hid (Hp.out.mono RDig.mono (Zaa hk1'));have c1:=Zaa hk1 _ _ g1;have c3:=Zaa hk1 _ _ g3;clear g0 g1 g2 g3
 by_cases hfb:Ze0 b=0
 ·rw[hfb]
  have hq2:Hid (Zb3 a r b p=if Ze0 p≠0 then Ze0 p else if (r=1∧0<p.length)∨(1<r∧p.length<3)then 10 else 0):=by
   show _=_;rw[hq'.out,if_neg (by simp[hfb])]
  clear hq'
  go_wp2_with fail
  refine(Zla _ p _ Hp1.out).mono ?_;rintro e w2 ⟨rfl,hk2⟩;have hk2':=hk1'.trans (hk2.mono hk1'.size);have d1:=Zaa hk2 _ _ c1;have d3:=Zaa hk2 _ _ c3;clear c1 c3
  by_cases hfp:Ze0 p=0
  ·rw[hfp]
   have hq3:Hid (Zb3 a r b p=if (r=1∧0<p.length)∨(1<r∧p.length<3)then 10 else 0):=by
    show _=_;rw[hq2.out,if_neg (by simp[hfp])]
   clear hq2
   by_cases hr2:r=1
   ·subst hr2
    by_cases hp0:p.length=0
    ·have Hq:Hid (Zb3 a 1 b p=0):=by show _=_;rw[hq3.out,if_neg (by omega)]
     clear hq3;rw[hp0]at d3;go_wp2;go_ret;exact⟨Zaj Hq.out.symm,hk2'⟩
    ·have Hq:Hid (Zb3 a 1 b p=10):=by show _=_;rw[hq3.out,if_pos (by omega)]
     clear hq3;go_wp2;go_ret;exact⟨Zaj Hq.out.symm,hk2'⟩
   ·have hr3:1<r:=by omega
    by_cases hp3:p.length<3
    ·have Hq:Hid (Zb3 a r b p=10):=by show _=_;rw[hq3.out,if_pos (by omega)]
     clear hq3;go_wp2;go_ret;exact⟨Zaj Hq.out.symm,hk2'⟩
    ·have Hq:Hid (Zb3 a r b p=0):=by show _=_;rw[hq3.out,if_neg (by omega)]
     clear hq3;go_wp2;go_ret;exact⟨Zaj Hq.out.symm,hk2'⟩
  ·have Hq:Hid (Zb3 a r b p=Ze0 p):=by show _=_;rw[hq2.out,if_pos hfp]
   clear hq2;go_wp2;go_ret;exact⟨Zaj Hq.out.symm,hk2'⟩
 ·have Hq:Hid (Zb3 a r b p=Ze0 b):=by show _=_;rw[hq'.out,if_pos hfb]
  clear hq';go_wp2;go_ret;exact⟨Zaj Hq.out.symm,hk1'⟩
theorem Zei(hb:Below w.heap.size w W)(hg:w.heap.size≤g):VLe w.cell? (View.but W.cell? (some g)):=fun a u hu=>by
 have hlt:=World.block_lt_of_cell? w a hu
 unfold View.but
 rw[if_neg (by intro e;injection e with e;omega)]
 exact Zaa hb _ _ hu
theorem Zde{b':Nat}(hb:b'≤b)(hle:VLe h (View.from w.cell? b))(hg:w.grownBy w' (some g))(hgb:g<b):VLe h (View.from w'.cell? b'):=fun a v e=>by
 have:=hle a v e
 unfold View.from at this⊢
 split at this
 ·cases this
 ·rename_i hne
  rw[if_neg (by omega)]
  exact hg.cell this (by intro h;injection h;omega)
theorem Zx5{d:Value}{x:List UInt8}(hc:h ⟨g,0,none⟩=some d)(hd:Zao h d x):RDigs h (.slice (some ⟨g,0,none⟩) 1 1) [x] :=
 ⟨_,_,rfl,by simp,by decide,by simp,(fun h=>by cases h),fun _=>⟨g,0,rfl,fun i hi=>by
  have:i=0:=by simp at hi;exact hi
  subst this
  exact⟨[d],rfl,fun j hj=>by
   have:j=0:=by omega
   subst this;simpa using hc,d,rfl,by simpa using hd⟩⟩⟩
theorem Zj9:∀(l:List ByteArray),l.all txOk=true→(Zbf l).length≤l.length*21
 |[],_=>by simp[Zbf]
 |s::l,h=>by
  rw[List.all_cons,Bool.and_eq_true]at h
  have ih:=Zj9 l h.2
  have hs:s.size≤20:=by have:=h.1;simp[txOk]at this;omega
  have e:Zbf (s::l)=(Zar s.size::Zca s)++Zbf l:=rfl
  rw[e,List.length_append,List.length_cons,List.length_cons,Zch]
  omega
theorem batchF_zero{a n:Int}{l:List ByteArray}(h:Zcq a n l=0):1≤n∧n≤1048576∧(Zbf l).length≤84:=by
 unfold Zcq at h;split at h
 ·cases h
 ·rename_i h1;split at h
  ·cases h
  ·split at h
   ·rename_i h2 h3;have hb:=Zj9 l h3
    have hn:inB n 1 1048576=true:=by
     cases hq:inB n 1 1048576
     ·simp[hq]at h1
     ·rfl
    simp[inB]at hn;omega
   ·cases h
theorem digsF_zero{l:List (List UInt8)}(h:Ze0 l=0):∀k (hk:k<l.length),l[k].length=32:=by
 intro k hk;refine Classical.byContradiction fun hne=>?_
 have h4:=Zpg hk hne;unfold Ze0 at h;split at h
 ·rename_i i hi;have:=(List.find?_eq_some_iff_append.1 hi).1;simp[h]at this
 ·rename_i hno;rw[List.find?_eq_none]at hno;have:=hno k (List.mem_range.2 hk);simp[h4]at this
theorem Zqp:∀(l:List (List UInt8)),(∀k (hk:k<l.length),l[k].length=32)→l.flatten.length=32*l.length
 |[],_=>rfl
 |x::l,h=>by
  have h0:=h 0 (by simp)
  simp only[List.getElem_cons_zero]at h0
  have ih:=Zqp l (fun k hk=>by have:=h (k+1) (by simp;omega);simpa using this)
  rw[List.flatten_cons,List.length_append,h0,ih,List.length_cons]
  omega
theorem headF_zero{a r:Int}{b p:List (List UInt8)}(h:Zb3 a r b p=0):1≤r∧r≤1048576∧b.flatten.length≤96∧p.flatten.length≤128:=by
 unfold Zb3 at h;split at h
 ·rename_i h1;split at h
  ·cases h
  ·rename_i h2;split at h
   ·rename_i h3;exact absurd h h3
   ·rename_i h3;split at h
    ·rename_i h4;exact absurd h h4
    ·rename_i h4;have hb:=Zqp b (digsF_zero (Classical.not_not.1 h3));have hp:=Zqp p (digsF_zero (Classical.not_not.1 h4));simp[inB]at h1;omega
 ·cases h
theorem Zs8{a r:Int}{b p:List (List UInt8)}(h:Zb3 a r b p=0):(∀k (hk:k<b.length),b[k].length=32)∧(∀k (hk:k<p.length),p[k].length=32):=by
 unfold Zb3 at h;split at h
 ·split at h
  ·cases h
  ·split at h
   ·rename_i h3;exact absurd h h3
   ·rename_i h3;split at h
    ·rename_i h4;exact absurd h h4
    ·rename_i h4;exact⟨digsF_zero (Classical.not_not.1 h3),digsF_zero (Classical.not_not.1 h4)⟩
 ·cases h
theorem headerB_len(a r:Int)(b p:List (List UInt8)):(Zcb a r b p).length=6+b.flatten.length+p.flatten.length:=by
 simp only[Zcb,Zed,Zb9,List.length_append,List.length_cons,List.length_nil];omega
theorem batchB_len(a n:Int)(l:List ByteArray):(Zfd a n l).length=5+(Zbf l).length:=by
 simp only[Zfd,Zb9,List.length_append,List.length_cons,List.length_nil]
end Go.Proofs.YtinibgklgehdpaaGreatDoor
