/- A part of what the last text stands on. -/
import Derived.Shelf.Abstract
import Derived.Test.YtinibgklgehdpaaGreatDoorK03
import Derived.Test.YtinibgklgehdpaaGreatDoorK04
import Derived.Test.YtinibgklgehdpaaGreatDoorK07
namespace Go.Proofs.YtinibgklgehdpaaGreatDoor
open Go.ChangeShapes Go.WideShapes Go.ChangeAt Go.RowKit Qa Qb Qc
set_option linter.all false
set_option maxHeartbeats 20000000
set_option maxRecDepth 100000
variable{P:Program}{w w':World}{a:Act}{o:Oper}{ops:Array Oper}{rest:List Oper}{Q:Exit→Act→World→Prop}{v:Value}{cs:Array Value}{h:View}{e t te:TypeId}{k g off sz bs b:Nat}{x y:Operand}{α:Type}{xs:List α}{R:View→List Value→α→Prop}{l:List Crt}
def Zht(vs:List Int)(i:Nat):Int:=match vs[i]? with
 |some v=>if inB v 0 3 then(match i with|0=>0|j+1=>match vs[j]? with|some u=>if v≤u then 9 else 0|none=>0)else 2
 |none=>0
def Zg4(a r:Int)(b p:List (List UInt8))(vs:List Int):Int :=
 if Zb3 a r b p≠0 then Zb3 a r b p else if 4<vs.length then 1 else if Zjl (Zht vs) vs.length≠0 then Zjl (Zht vs) vs.length else if vs.length<3 then 10 else 0
theorem Zpp{vs:List Int}(hk:k<vs.length)(h:inB vs[k] 0 3=false):Zht vs k=2:=by unfold Zht;simp[hk,h]
theorem Zpq{vs:List Int}(hk:0<vs.length)(h:inB vs[0] 0 3=true):Zht vs 0=0:=by unfold Zht;simp[hk,h]
theorem Zse{vs:List Int}(hk:k+1<vs.length)(h:inB vs[k+1] 0 3=true):Zht vs (k+1)=if vs[k+1]≤vs[k]then 9 else 0:=by
 unfold Zht;have:k<vs.length:=by omega
 simp[hk,h,this]
theorem Zek(a r:Int)(vb vp vv:Value)(b p:List (List UInt8))(vs:List Int)(w:World)(hb:RDigs w.cell? vb b)(hp:RDigs w.cell? vp p)(hv:RIs w.cell? vv vs) :
 Calls Tryz.prog 56 #[.agg #[.int .i64 a,.int .i64 r,vb,vp,vv]] w fun e w'=>e=.returned (.int .i64 (Zg4 a r b p vs))∧Below w.heap.size w w':=by
 obtain⟨vA,vc,rfl,_⟩:=id hv;obtain⟨_,hvcap,hvlen,hvel⟩:=hv.at;have Hvel:=Lib.hid hvel;clear hvel hv;obtain⟨E,hE⟩:∃E,Hid (Zb3 a r b p=E):=⟨_,rfl⟩;obtain⟨Q,hQ⟩:∃Q,Hid (Zg4 a r b p vs=Q):=⟨_,rfl⟩;obtain⟨V,hV⟩:∃V,Hid (Zjl (Zht vs) vs.length=V):=⟨_,rfl⟩;have hq:Hid (Q=if E≠0 then E else if 4<vs.length then 1 else if V≠0 then V else if vs.length<3 then 10 else 0):=by show _=_;rw[←hQ.out,←hE.out,←hV.out];rfl
 rw[hQ.out]
 go_enter Tryz.func56,Tryz.ntmps56
 go_wp2_with fail
 refine Za7 _ _ _ (fun W=>Calls Tryz.prog _ _ W _) (fun W hk1 hsz hbl=>?_);refine(Zdn a r vb vp b p _ (hb.mono RDig.mono (Zaa hbl)) (hp.mono RDig.mono (Zaa hbl))).mono ?_;rintro e w1 ⟨rfl,hb1⟩;rw[hE.out];have hbl1:=hbl.trans (hb1.mono hbl.size);have hk2:=hk1.kept hb1;clear hbl hb1 hk1;have c4:=hk2.cell 4;simp at c4
 by_cases hE0:E=0
 ·subst hE0
  by_cases h4:4<vs.length
  ·have HQ:Hid (Q=1):=by show _=_;rw[hq.out,if_neg (by omega),if_pos h4]
   clear hq;go_wp2;go_ret;exact⟨Zaj HQ.out.symm,hbl1⟩
  ·have HQ:Hid (Q=if V≠0 then V else if vs.length<3 then 10 else 0):=by show _=_;rw[hq.out,if_neg (by omega),if_neg h4]
   clear hq;go_wp2
   go_loopw [19] (fun i wr=>∃k:Nat,k≤vs.length∧i=.int .i64 k∧Hid (∀j,j<k→Zht vs j=0)∧Below w1.heap.size w1 wr) (fun i _=>vs.length-(intOf i).toNat)
   case atStart=>exact⟨0,Nat.zero_le _,rfl,fun j hj=>by omega,Below.refl _ _⟩
   case round =>
    obtain⟨k,hk,rfl,hok,hbl⟩:=hrel;have c4:=Zaa hbl _ _ c4
    by_cases hlt:k<vs.length
    ·obtain⟨b0,o0,rfl,hcell'⟩:=Hvel.out k hlt;have hc1:=Zaa hbl _ _ (Zaa hbl1 _ _ hcell');clear hcell';cases hin:inB vs[k] 0 3
     ·have HQ':Hid (Q=2):=by
       show _=_;have:=hV.out.symm.trans (Zjk hlt hok.out (Zpp hlt hin) (by decide));rw[HQ.out,this];rfl
      clear HQ
      go_wp2_with (first|(go_at_call 62;refine(Za4 _ _).mono ?_;rintro e w' ⟨rfl,rfl⟩)|fail)
      go_ret;exact⟨Zaj HQ'.out.symm,hbl1.trans (hbl.mono hbl1.size)⟩
     ·cases k with
      |zero =>
       have Hat:=Lib.hid (Zpq hlt hin);rw[Nat.add_zero]at hc1;generalize vs[0]=x at hc1 hin
       go_wp2_with (first|(go_at_call 62;refine(Za4 _ _).mono ?_;rintro e w' ⟨rfl,rfl⟩)|fail)
       go_roundw
       case rel=>exact⟨1,by omega,rfl,Zj5 hok.out Hat.out,hbl⟩
       case measure=>simp[intOf];omega
      |succ k =>
       have Hat:=Lib.hid (Zse hlt hin);obtain⟨b1,o1,e1,hcell'⟩:=Hvel.out k (by omega);injection e1 with e1;injection e1 with e1 e2 e3;subst e1 e2;have hc2:=Zaa hbl _ _ (Zaa hbl1 _ _ hcell');clear hcell';generalize vs[k+1]=x at hc1 hin Hat;generalize vs[k]=y at hc2 Hat;have q1:IntKind.i64.wrap (((k+1:Nat):Int)-1)=(k:Nat):=by rw[IntKind.wrap_i64];omega
       have q2:(0:Int)<((k+1:Nat):Int):=by omega
       obtain⟨k1,hk1⟩:∃k1,Hid (k+1=k1):=⟨_,rfl⟩;have hk1':=hk1.out;rw[hk1.out]at hc1 hlt hk q1 q2⊢;have q3:0<k1:=by omega
       have q4:k<vs.length:=by omega
       have q5:(k:Int)<vs.length:=by omega
       by_cases hxy:x≤y
       ·have HQ':Hid (Q=9):=by
         show _=_;have:=hV.out.symm.trans (Zjk hlt (hk1.out▸hok.out) (hk1.out▸Hat.out.trans (if_pos hxy)) (by decide));rw[HQ.out,this];rfl
        clear HQ Hat
        go_wp2_with (first|(go_at_call 62;refine(Za4 _ _).mono ?_;rintro e w' ⟨rfl,rfl⟩)|fail)
        go_ret;exact⟨Zaj HQ'.out.symm,hbl1.trans (hbl.mono hbl1.size)⟩
       ·have Hat':Hid (Zht vs (k+1)=0):=Hat.out.trans (if_neg hxy);clear Hat
        go_wp2_with (first|(go_at_call 62;refine(Za4 _ _).mono ?_;rintro e w' ⟨rfl,rfl⟩)|fail)
        go_roundw
        case rel=>exact⟨k1+1,by omega,by go_num,hk1.out▸Zj5 (hk1.out▸hok.out) Hat'.out,hbl⟩
        case measure=>simp[intOf];omega
    ·have HQ':Hid (Q=if vs.length<3 then 10 else 0):=by
      show _=_;rw[HQ.out,if_neg (by rw[←hV.out,Zqr fun j hj=>hok.out j (by omega)];decide)]
     clear HQ
     by_cases h3:vs.length<3
     ·have HQ:Hid (Q=10):=HQ'.out.trans (if_pos h3);clear HQ';go_wp2;go_ret;exact⟨Zaj HQ.out.symm,hbl1.trans (hbl.mono hbl1.size)⟩
     ·have HQ:Hid (Q=0):=HQ'.out.trans (if_neg h3);clear HQ';go_wp2;go_ret;exact⟨Zaj HQ.out.symm,hbl1.trans (hbl.mono hbl1.size)⟩
 ·have HQ:Hid (Q=E):=by show _=_;rw[hq.out,if_pos hE0]
  clear hq;go_wp2;go_ret;exact⟨Zaj HQ.out.symm,hbl1⟩
def hD(h:Hdr):List UInt8:=hdrD h.author h.round h.batches h.parents
def hF(h:Hdr):Int:=Zb3 h.author h.round h.batches h.parents
def cF(c:Crt):Int:=Zg4 c.hdr.author c.hdr.round c.hdr.batches c.hdr.parents c.voters
theorem Zv1{c:Crt}(h:cF c=0):hF c.hdr=0:=by
 unfold cF Zg4 at h;unfold hF;split at h
 ·rename_i h1;exact absurd h h1
 ·rename_i h1;exact Classical.not_not.1 h1
theorem Zdz{f:FuncId}{fn:Func}(hf : P.funcs[f]? = some fn)(hn : (fn.name == "runtime.NumGoroutine") = false){c:Code}(hb : fn.body = some c) : ∀ args w, (callFunc f args).run P w = .ok (.enter f args) w := enters_of hf hn hb
theorem Zyl(d x:Value)(y ds:List UInt8)(g:Nat)(w:World)(hc:w.cell? ⟨g,0,none⟩=some x)(hd:Zao w.cell? d y)(hx:Zao w.cell? x ds) :
 Calls Tryz.prog 118 (#[d]++#[.pointer (some ⟨g,0,none⟩)]) w fun e w'=>e=.returned (.bool (y==ds))∧Below w.heap.size w w':=by
 show Calls Tryz.prog 118 #[d,.pointer (some ⟨g,0,none⟩)] w _
 go_enter Tryz.func118,Tryz.ntmps118
 go_wp2_with fail
 refine(Zb6 _ _ y ds _ hd hx).mono ?_;rintro e w' ⟨rfl,rfl⟩;go_wp2;go_ret;exact⟨rfl,Below.refl _ _⟩
theorem at_any(vl:Value)(l:List (List UInt8))(vd:Value)(d:List UInt8)(w:World)(hl:RDigs w.cell? vl l)(hd:Zao w.cell? vd d) :
 Calls Tryz.prog 90 #[vl,vd] w fun e w'=>e=.returned (.int .i64 (Zeu l d))∧Below w.heap.size w w':=by
 obtain⟨A,c,rfl,hform⟩:=id hl;obtain⟨B,c',rfl,hform'⟩:=id hd;clear hform hform';have hbb:=Zac w (.cells #[.slice B d.length c'] 54);have hdb:=hd.mono (Zaa hbb);have hlb:=hl.mono RDig.mono (Zaa hbb);have hcb:=(Blk.new w 54 #[.slice B d.length c']).cell 0
 go_enter Tryz.func90,Tryz.ntmps90
 go_wp2_with fail
 refine(Zhk 118 #[.pointer (some ⟨w.heap.size,0,none⟩)] (·==d) (Zdz Tryz.func118 (by kernel_rfl) rfl) _ l _ hlb (fun W x y hW hx=>Zyl x _ y d _ W (Zaa hW _ _ hcb) hx (hdb.mono (Zaa hW)))).mono ?_;rintro e w1 ⟨rfl,hb1⟩;have hbl:=hbb.trans (hb1.mono hbb.size);have e1:idxI (·==d) l=Zeu l d:=rfl;rw[e1];obtain⟨i,hi⟩:∃i,Hid (Zeu l d=i):=⟨_,rfl⟩;clear hdb hlb hcb hd hl;go_wp2;go_ret;exact⟨rfl,hbl⟩
theorem Zpw(cs:List Value)(x:Crt)(a r:Int)(vb vp:Value)(g:Nat)(w:World)(hblk:Blk w g 51 #[.int .i64 a,.int .i64 r,vb,vp])(hx:RCrt w.cell? cs x) :
 Calls Tryz.prog 92 (#[.agg cs.toArray]++#[.pointer (some ⟨g,0,none⟩)]) w fun e w'=>e=.returned (.bool (Zew a r x))∧Below w.heap.size w w':=by
 obtain⟨ub,up,uv,rfl,_,_,_⟩:=hx;show Calls Tryz.prog 92 #[.agg #[.int .i64 x.hdr.author,.int .i64 x.hdr.round,ub,up,uv],.pointer (some ⟨g,0,none⟩)] w _;have hbb:=Zac w (.cells #[.int .i64 x.hdr.author,.int .i64 x.hdr.round,ub,up,uv] 64);have hB:=hblk.kept hbb;have g0:=hB.cell 0;have g1:=hB.cell 1;simp at g0 g1;clear hB hblk;have He:∀q,(x.hdr.author==a&&x.hdr.round==r)=q→Hid (Zew a r x=q):=fun q h=>h
 generalize x.hdr.author=x0 at g0 He hbb g1⊢;generalize x.hdr.round=y0 at g0 He hbb g1⊢
 by_cases h1:x0=a
 ·by_cases h2:y0=r
  ·have Hb:=He true (by simp[h1,h2]);clear He;subst h1 h2
   go_enter Tryz.func92,Tryz.ntmps92
   go_wp2;go_ret;exact⟨Zap Hb.out.symm,hbb⟩
  ·have Hb:=He false (by simp[h2]);clear He;subst h1
   go_enter Tryz.func92,Tryz.ntmps92
   go_wp2;go_ret;exact⟨Zap (by rw[Hb.out];simp[h2]),hbb⟩
 ·have Hb:=He false (by simp[h1]);clear He
  go_enter Tryz.func92,Tryz.ntmps92
  go_wp2;go_ret;exact⟨Zap Hb.out.symm,hbb⟩
theorem Zif(vl:Value)(l:List Crt)(h:Hdr)(vb vp:Value)(w:World)(hl:RCrts w.cell? vl l) :
 Calls Tryz.prog 59 #[vl,.agg #[.int .i64 h.author,.int .i64 h.round,vb,vp]] w fun e w'=>e=.returned (.bool (Zhx l h))∧Below w.heap.size w w':=by
 obtain⟨A,c,rfl,hform⟩:=id hl;clear hform;have hbb:=Zac w (.cells #[.int .i64 h.author,.int .i64 h.round,vb,vp] 51);have hlb:=hl.mono RCrt.mono (Zaa hbb);have hk:=Blk.new w 51 #[.int .i64 h.author,.int .i64 h.round,vb,vp];obtain⟨Z,hZ⟩:∃Z,Hid (Zhx l h=Z):=⟨_,rfl⟩;rw[hZ.out]
 go_enter Tryz.func59,Tryz.ntmps59
 go_wp2_with fail
 refine(Zhl 92 #[.pointer (some ⟨w.heap.size,0,none⟩)] (Zew h.author h.round) (Zdz Tryz.func92 (by kernel_rfl) rfl) _ l _ hlb (fun W cs x hW hx=>Zpw cs x _ _ _ _ _ W (hk.kept hW) hx)).mono ?_;rintro e w1 ⟨rfl,hb1⟩;have hbl:=hbb.trans (hb1.mono hbb.size);rw[show l.any (Zew h.author h.round)=Z from hZ.out];clear hlb hk hl hZ;go_wp2;go_ret;exact⟨rfl,hbl⟩
theorem Zmv(c:Crt)(vb vp vv:Value)(w:World)(hb:RDigs w.cell? vb c.hdr.batches)(hp:RDigs w.cell? vp c.hdr.parents)(hT:Tabs w.cell?) :
 Calls Tryz.prog 33 #[.agg #[.int .i64 c.hdr.author,.int .i64 c.hdr.round,vb,vp,vv]] w fun e w'=>∃d,e=.returned d∧Below w.heap.size w w'∧Zao (View.from w'.cell? w.heap.size) d (Zi4 c.hdr.author c.hdr.round c.hdr.batches c.hdr.parents):=by
 obtain⟨bA,bc,rfl,_⟩:=id hb;obtain⟨pA,pc,rfl,_⟩:=id hp;obtain⟨R,hR⟩:∃R,Hid (Zi4 c.hdr.author c.hdr.round c.hdr.batches c.hdr.parents=R):=⟨_,rfl⟩;rw[hR.out]
 go_enter Tryz.func33,Tryz.ntmps33
 go_wp2_with fail
 refine Za7 _ _ _ (fun W=>Calls Tryz.prog _ _ W _) (fun W hk hszW hbW=>?_);have q:=Zaa hbW;refine(Zbx _ _ _ _ c.hdr.batches c.hdr.parents _ (hb.mono RDig.mono q) (hp.mono RDig.mono q) (hT.mono q)).mono ?_;rintro e w1 ⟨d,rfl,hb1,hr⟩;rw[hR.out]at hr;generalize Zb3 c.hdr.author c.hdr.round c.hdr.batches c.hdr.parents=E;clear hk hT;go_wp2;go_ret;exact⟨_,rfl,hbW.trans (hb1.mono hbW.size),hr.mono (Za8 hbW.size)⟩
theorem Zk1{h:Hdr}(hv:hF h=0):Zi4 h.author h.round h.batches h.parents=hD h:=if_pos hv
theorem Zbb{b':Nat}{g:Option Nat}(hb:b'≤b)(hg:∀k,g=some k→k<b):VLe (View.from h b) (View.from (View.but h g) b'):=fun a v e=>by
 unfold View.from at e⊢
 split at e
 ·cases e
 ·rename_i hne
  rw[if_neg (by omega)]
  unfold View.but
  rw[if_neg (by intro h;have:=hg _ h.symm;omega)]
  exact e
theorem Zq1(vl:Value)(l:List Crt)(w:World)(hl:RCrts w.cell? vl l)(hv:∀c∈l,hF c.hdr=0)(hT:Tabs w.cell?) :
 Calls Tryz.prog 57 #[vl] w fun e w'=>∃v',e=.returned v'∧Below w.heap.size w w'∧OwnSl 1 (RFrom w.heap.size RDig) 54 w' w.heap.size v' (dsOf hD l):=by
 obtain⟨A,c,rfl,hform⟩:=id hl;clear hform;obtain⟨_,hcap,hlen,hel⟩:=hl.at;have Hel:=Lib.hid hel;have Hv:=Lib.hid hv;clear hel hl hv
 go_enter Tryz.func57,Tryz.ntmps57
 go_wp2
 go_loopw [3,5,8] (fun v _ i wr=>∃k:Nat,k≤l.length∧i=.int .i64 k∧OwnSl 1 (RFrom w.heap.size RDig) 54 wr w.heap.size v (dsOf hD (l.take k))∧Below w.heap.size w wr) (fun _ _ i _=>l.length-(intOf i).toNat)
 case atStart=>exact⟨0,Nat.zero_le _,rfl,OwnSl.nil _ _ _ _ _,Below.refl _ _⟩
 case round =>
  obtain⟨k,hk,rfl,hown,hbl⟩:=hrel;have hbs:=hbl.size
  by_cases hlt:k<l.length
  ·obtain⟨b0,o0,vb,vp,vv,rfl,q0,q1,q2,q3,q4,hb,hp,hvv⟩:=Hel.out k hlt;obtain⟨bA,bc,rfl,hf1⟩:=id hb;obtain⟨pA,pc,rfl,hf2⟩:=id hp;obtain⟨vA,vc,rfl,hf3⟩:=id hvv;clear hf1 hf2 hf3 hvv;have c0:=Zaa hbl _ _ q0;have c1:=Zaa hbl _ _ q1;have c2:=Zaa hbl _ _ q2;have c3:=Zaa hbl _ _ q3;have c4:=Zaa hbl _ _ q4;have hb':=hb.mono RDig.mono (Zaa hbl);have hp':=hp.mono RDig.mono (Zaa hbl);have hval:=Lib.hid (Hv.out l[k] (List.getElem_mem hlt));have Hn:=Lib.hid (show dsOf hD (l.take (k+1))=dsOf hD (l.take k)++[hD l[k].hdr] by unfold dsOf;rw[List.take_succ_eq_append_getElem hlt,List.map_append,List.map_singleton]);have Hlk:=Lib.hid (show(dsOf hD (l.take k)).length=k by unfold dsOf;simp;omega);clear q0 q1 q2 q3 q4 hb hp;generalize dsOf hD (l.take k)=L at hown Hn Hlk;generalize l[k]=x at c0 c1 c2 c3 c4 hb' hp' hval Hn
   go_wp2_with fail
   refine Za7 _ _ _ (fun W=>Calls Tryz.prog _ _ W _) (fun W hk' hszW hbW=>?_);have qW:=Zaa hbW;have hblW:=hbl.trans (hbW.mono hbs);refine(Zmv x _ _ _ _ (hb'.mono RDig.mono qW) (hp'.mono RDig.mono qW) (hT.mono (Zaa hblW))).mono ?_;rintro e w1 ⟨d,rfl,hbx,hr⟩;rw[Zk1 hval.out]at hr;have hb1:=hbW.trans (hbx.mono hbW.size);have hr:=hr.mono (Za8 hbW.size);have hown1:=hown.kept (RFrom.mono RDig.mono) hb1;have hbl1:Below w.heap.size w w1:=hbl.trans (hb1.mono hbs)
   have hR:RFrom w.heap.size RDig (View.but w1.cell? u3.ownBlock) [d] (hD x.hdr) :=
    ⟨d,rfl,hr.mono (Zbb hbs (fun g hg=>(hown.lt g hg).2))⟩
   have hs1:=hb1.size;obtain⟨A',c',rfl,hform⟩:=id hr;clear hform c0 c1 c2 c3 c4 hb' hp' hr
   go_wp2_with (at_builtin;go_loud (refine Za2 (n:=140737488355328) (RFrom.mono RDig.mono) (hD x.hdr) [.slice A' (hD x.hdr).length c'] Zez _ _ rfl rfl rfl hown1 hbl1 (Nat.le_trans hbs hs1) rfl rfl rfl rfl hR (Nat.le_refl _) (by rw[Hlk.out];omega) (by rw[Hlk.out];omega) ?_))
   intro v' w2 ho hbl2 _;clear hown hown1 hR;go_wp2;go_roundw
   case rel=>exact⟨k+1,by omega,by go_num,by rw[Hn.out];exact ho,hbl2⟩
   case measure=>simp[intOf];omega
  ·have:k=l.length:=by omega
   subst this;go_wp2;go_ret;exact⟨_,rfl,hbl,by simpa using hown⟩
theorem Zoz(ds:List (List UInt8))(d:List UInt8):(Zeu ds d= -1)∨∃k:Nat,k<ds.length∧Zeu ds d=k:=by
 rcases Zfl (·==d) ds with ⟨h,_⟩|⟨k,hk,h,_⟩
 ·exact .inl h
 ·exact .inr ⟨k,hk,h⟩
theorem Zr6{ds:List (List UInt8)}{r:Int}{p:List UInt8}(h:Zeu ds p= -1):Zdq l ds r p=false:=by
 unfold Zdq;rw[h]
 split<;>simp
theorem Zr5{ds:List (List UInt8)}{r:Int}{p:List UInt8}(hk:k<l.length)(h:Zeu ds p=k):Zdq l ds r p=(l[k].hdr.round != r-1):=by
 unfold Zdq;rw[h];simp[List.getElem?_eq_getElem hk]
def Zjq(ds ps:List (List UInt8)):List (List UInt8):=ps.filter fun p=>decide (Zeu ds p<0)
theorem Zs3(ds ps:List (List UInt8))(hk:k<ps.length):Zjq ds (ps.take (k+1))=Zjq ds (ps.take k)++(if Zeu ds ps[k]<0 then [ps[k]]else []):=by
 unfold Zjq;rw[List.take_succ_eq_append_getElem hk,List.filter_append]
 congr 1
 by_cases h:Zeu ds ps[k]<0<;>simp[h]
theorem Zu5(ds ps:List (List UInt8)):(Zjq ds ps).length≤ps.length:=List.length_filter_le _ _
theorem Zv8(l:List Crt)(ds ps:List (List UInt8))(r:Int)(hk:k<ps.length):(ps.take (k+1)).any (Zdq l ds r)=((ps.take k).any (Zdq l ds r)||Zdq l ds r ps[k]):=by
 rw[List.take_succ_eq_append_getElem hk,List.any_append];simp
theorem Zhi(vl vs:Value)(l:List Crt)(ds:List (List UInt8))(h:Hdr)(vb vp:Value)(w:World)(hl:RCrts w.cell? vl l)(hs:RDigs w.cell? vs ds)(hp:RDigs w.cell? vp h.parents)(hlen:ds.length≤l.length)(hr0:1≤h.round)(hr1:h.round≤1048576) :
 Calls Tryz.prog 58 #[vl,vs,.agg #[.int .i64 h.author,.int .i64 h.round,vb,vp]] w fun e w'=>∃v,e=.returned (.tuple #[v,.bool (Zgf l ds h)])∧Below w.heap.size w w'∧OwnSl 1 (RFrom w.heap.size RDig) 54 w' w.heap.size v (Zgg ds h):=by
 obtain⟨A,c,rfl,hf⟩:=id hl;obtain⟨pA,pc,rfl,hf2⟩:=id hp;obtain⟨_,hn1,hn2,hel⟩:=hl.at;obtain⟨_,hm1,hm2,hpel⟩:=hp.at;have Hel:=Lib.hid hel;have Hpel:=Lib.hid hpel;have Hs:=Lib.hid hs;have Hlen:=Lib.hid hlen;clear hl hel hf hf2 hpel hp hs hlen;rw[show Zgf l ds h=h.parents.any (Zdq l ds h.round) from rfl,show Zgg ds h=Zjq ds h.parents from rfl];generalize h.parents=P at *;generalize h.round=r at *;generalize h.author=au at *;have er:IntKind.i64.wrap (r-1)=r-1:=by rw[IntKind.wrap_i64];omega
 obtain⟨QW,hQW⟩:∃q,Hid (P.any (Zdq l ds r)=q):=⟨_,rfl⟩;obtain⟨QN,hQN⟩:∃q,Hid (Zjq ds P=q):=⟨_,rfl⟩;rw[hQW.out,hQN.out]
 go_enter Tryz.func58,Tryz.ntmps58
 go_upto_region 1 with fail
 refine Zo fun W hbk hsz hbW=>?_
 have hzW:=hbW.size;clear hsz;have g3:=hbk.cell 3;simp at g3;go_wp2
 go_loopw [6,7,14] (fun v q i wr=>∃k:Nat,k≤P.length∧i=.int .i64 k∧q=.bool ((P.take k).any (Zdq l ds r))∧OwnSl 1 (RFrom w.heap.size RDig) 54 wr W.heap.size v (Zjq ds (P.take k))∧Below W.heap.size W wr) (fun _ _ i _=>P.length-(intOf i).toNat)
 case atStart=>exact⟨0,Nat.zero_le _,rfl,rfl,OwnSl.nil _ _ _ _ _,Below.refl _ _⟩
 case round =>
  clear g3;obtain⟨k,hk,rfl,rfl,hown,hbl⟩:=hrel;have hbk':=hbk.kept hbl;have hz:=hbl.size;have hblw:=hbW.trans (hbl.mono hzW);obtain⟨q0,hq0⟩:∃q,Hid ((P.take k).any (Zdq l ds r)=q):=⟨_,rfl⟩;rw[hq0.out]
  by_cases hlt:k<P.length
  ·obtain⟨b0,o0,d,rfl,s0,hd⟩:=Hpel.out k hlt;have c0:=Zaa hblw _ _ s0;have hdB:=hd;have hd':=hd.mono (Zaa hblw);have hNs:=Lib.hid (Zs3 ds P hlt);have hWs:=Lib.hid (Zv8 l ds P r hlt);rw[hq0.out]at hWs;have hcs:=Zoz ds P[k];have hneg:Hid (Zeu ds P[k]= -1→Zdq l ds r P[k]=false):=fun h=>Zr6 h
   have hpos:Hid (∀j (hj:j<l.length),Zeu ds P[k]=j→Zdq l ds r P[k]=(l[j].hdr.round != r-1)):=fun j hj h=>Zr5 hj h
   have Hlk:=Lib.hid (show(Zjq ds (P.take k)).length≤k from Nat.le_trans (Zu5 _ _) (by simp;omega));have hdl:P[k].length*1≤140737488355328:=hd.len;clear s0 hd;generalize Zjq ds (P.take k)=L at hown hNs Hlk;generalize Zdq l ds r P[k]=WP at hneg hpos hWs;generalize hX:P[k]=x at hd' hcs hneg hpos hNs hdl hdB;clear hX
   go_wp2_with fail
   refine(at_any _ ds _ x _ (Hs.out.mono RDig.mono (Zaa hblw)) hd').mono ?_;rintro e w1 ⟨rfl,hb1⟩;have hbl1:=hbl.trans (hb1.mono hz);have hbk1:=hbk'.kept hb1;have hblw1:=hbW.trans (hbl1.mono hzW);have hown1:=hown.kept (RFrom.mono RDig.mono) hb1;have hz1:=hbl1.size;clear c0 hd' hbk' hown
   rcases hcs with hneg'|⟨j,hj,hpos'⟩
   ·rw[hneg'];have hq1:Hid ((P.take (k+1)).any (Zdq l ds r)=q0):=by show _=_;rw[hWs.out,hneg.out hneg'];simp
    have hn1:Hid (Zjq ds (P.take (k+1))=L++[x]):=by show _=_;rw[hNs.out,hneg'];simp
    have hd1:=hdB.mono (Zaa hblw1);clear hneg hpos hNs hWs hneg' hdB;obtain⟨dA,dc,rfl,hf⟩:=id hd1;clear hf
    go_wp2_with fail
    refine(Zci _ x _ hd1).mono ?_;rintro e w2 ⟨d2,rfl,hb2,o2⟩;have hown2:=hown1.kept (RFrom.mono RDig.mono) hb2;have hbl2:Below W.heap.size W w2:=hbl1.trans (hb2.mono hz1)
    have hR:RFrom w.heap.size RDig (View.but w2.cell? u6.ownBlock) [d2] x :=
     ⟨d2,rfl,o2.reads_from hdl (Nat.le_trans hzW hz1) (fun g hg=>(hown1.lt g hg).2)⟩
    have hz2:=hbl2.size;obtain⟨A',c',rfl⟩:=o2.form;clear hd1 o2 hown1
    go_wp2_with (at_builtin;go_loud (refine Za2 (n:=140737488355328) (RFrom.mono RDig.mono) x [.slice A' x.length c'] Zez _ _ rfl rfl rfl hown2 hbl2 hz2 rfl rfl rfl rfl hR (Nat.le_refl _) (by have:=Hlk.out;omega) (by have:=Hlk.out;omega) ?_))
    intro v' w3 ho hbl3 _;clear hown2 hR;go_wp2;go_roundw
    case rel=>exact⟨k+1,by omega,by go_num,by rw[hq1.out],by rw[hn1.out];exact ho,hbl3⟩
    case measure=>simp[intOf];omega
   ·have hjl:j<l.length:=by have:=Hlen.out;omega
    rw[hpos'];have hw:=hpos.out j hjl hpos';have hn1:Hid (Zjq ds (P.take (k+1))=L):=by show _=_;rw[hNs.out,hpos',if_neg (by omega),List.append_nil]
    obtain⟨lb,lo,ub,up,uv,rfl,s0,s1,_⟩:=Hel.out j hjl;have d1:=Zaa hblw1 _ _ s1;clear hneg hpos hpos' s0 s1 hNs hdB;generalize l[j].hdr.round=y at hw d1
    by_cases hy:y=r-1
    ·have hq1:Hid ((P.take (k+1)).any (Zdq l ds r)=q0):=by show _=_;rw[hWs.out,hw];simp[hy]
     clear hw hWs;subst hy
     go_wp2_with fail
     refine Zr [] (.q 0 (.q 1 (.q 2 (.q 3 (.q 4 (.q 5 (.q 6 (.q 7 (.q 8 (.q 9 (.q 10 .nil))))))))))) fun W2 hS=>?_
     have hown2:=hown1.kept (RFrom.mono RDig.mono) hS
     repeat((first|refine pq (h:=⟨_,fun w' hS=>by(have h1:=Zaa hS _ _ d1;have hq:=hbk1.kept hS;have h2:=hq.cell 1;simp at h2;go_simp;exact rfl),?_⟩)|refine Zq ?_);simp only[sx])
     refine Zah ?_;go_wp2;go_roundw
     case rel=>exact⟨k+1,by omega,by go_num,by rw[hq1.out],by rw[hn1.out];exact hown2,hbl1.trans (hS.mono hz1)⟩
     case measure=>simp[intOf];omega
    ·have hq1:Hid ((P.take (k+1)).any (Zdq l ds r)=true):=by show _=_;rw[hWs.out,hw];simp[hy]
     clear hw hWs
     go_wp2_with fail
     refine Zr [] (.q 0 (.q 1 (.q 2 (.q 3 (.q 4 (.q 5 (.q 6 (.q 7 (.q 8 (.q 9 (.q 10 .nil))))))))))) fun W2 hS=>?_
     have hown2:=hown1.kept (RFrom.mono RDig.mono) hS
     repeat((first|refine pq (h:=⟨_,fun w' hS=>by(have h1:=Zaa hS _ _ d1;have hq:=hbk1.kept hS;have h2:=hq.cell 1;simp at h2;go_simp;exact rfl),?_⟩)|refine Zq ?_);simp only[sx])
     refine Zah ?_;go_wp2;go_roundw
     case rel=>exact⟨k+1,by omega,by go_num,by rw[hq1.out],by rw[hn1.out];exact hown2,hbl1.trans (hS.mono hz1)⟩
     case measure=>simp[intOf];omega
  ·have hkl:k=P.length:=by omega
   have e1:q0=QW:=by rw[←hq0.out,hkl,List.take_length,hQW.out]
   have e2:Zjq ds (P.take k)=QN:=by rw[hkl,List.take_length,hQN.out]
   rw[e2]at hown;have hown:=hown.base hzW;clear e2 hq0;subst e1;go_wp2;go_ret2;exact⟨_,rfl,hblw,hown⟩
theorem Zz1(hk:k<l.length):badC hD l k=(Zhx (l.take k) l[k].hdr||decide (parF (l.take k) ((dsOf hD l).take k) l[k].hdr≠0)):=by
 unfold badC;rw[List.getElem?_eq_getElem hk]
theorem Zze(l:List Crt)(ds:List (List UInt8))(h:Hdr):decide (parF l ds h≠0)=(Zgf l ds h||decide (0<(Zgg ds h).length)):=by
 unfold parF;cases Zgf l ds h
 ·simp only[Bool.false_eq_true,if_false,Bool.false_or]
  by_cases hz:(Zgg ds h).length=0
  ·rw[if_pos hz,hz];decide
  ·rw[if_neg hz];have:0<(Zgg ds h).length:=by omega
   simp[this]
 ·simp
theorem RSl.weak{R':View→List Value→α→Prop}(hR:∀h cs x,R h cs x→R' h cs x)(hr:RSl sz R bs h v xs):RSl sz R' bs h v xs:=by
 obtain⟨A,c,e,h1,h2,h3,h4,h5⟩:=hr;refine⟨A,c,e,h1,h2,h3,h4,fun hp=>?_⟩;obtain⟨b,o,ea,hc⟩:=h5 hp;exact⟨b,o,ea,fun i hi=>by obtain⟨cs,k1,k2,k3⟩:=hc i hi;exact⟨cs,k1,k2,hR _ _ _ k3⟩⟩
theorem Zgx(l:List Crt):(dsOf hD l).length=l.length:=by unfold dsOf;simp
theorem Zx6(h:400<l.length):dagF hD cF l=12:=by unfold dagF;rw[if_pos h]
theorem Zvs(h:¬400<l.length)(hk:k<l.length)(hc:cF l[k]≠0):dagF hD cF l=12:=by
 unfold dagF;rw[if_neg h,if_pos (List.any_eq_true.2 ⟨l[k],List.getElem_mem hk,by simp[hc]⟩)]
theorem Zv9(h:∀j (hj:j<l.length),cF l[j]=0):∀c∈l,cF c=0:=fun c hc=>by
 obtain⟨i,hi,rfl⟩:=List.getElem_of_mem hc
 exact h i hi
theorem Zvr(h:¬400<l.length)(hv:∀c∈l,cF c=0):dagF hD cF l=if (List.range l.length).any (badC hD l)then 12 else 0:=by
 unfold dagF;rw[if_neg h,if_neg];rw[Bool.not_eq_true,List.any_eq_false];intro c hc;simp[hv c hc]
theorem Zfb(vl:Value)(l:List Crt)(w:World)(hl:RCrts w.cell? vl l)(hT:Tabs w.cell?) :
 Calls Tryz.prog 31 #[.agg #[vl]] w fun e w'=>e=.returned (.int .i64 (dagF hD cF l))∧Below w.heap.size w w':=by
 obtain⟨A,c,rfl,hform⟩:=id hl;have HT:=Lib.hid hT;clear hT;obtain⟨_,hn1,hn2,hel⟩:=hl.at;have Hel:=Lib.hid hel;have Hl:=Lib.hid hl;clear hel hl hform;obtain⟨Q,hQ⟩:∃Q,Hid (dagF hD cF l=Q):=⟨_,rfl⟩;rw[hQ.out]
 by_cases hbig:400<l.length
 ·have HQ:Hid (Q=12):=by show _=_;rw[←hQ.out,Zx6 hbig]
  clear hQ
  go_enter Tryz.func31,Tryz.ntmps31
  go_wp2;go_ret;exact⟨Zaj HQ.out.symm,Zac _ _⟩
 have Hbig:=Lib.hid hbig;have hn4:l.length≤400:=by omega
 clear hbig
 go_enter Tryz.func31,Tryz.ntmps31
 go_upto_region 1 with fail
 refine Zo fun W hbk hsz hbW=>?_
 have hzW:=hbW.size;clear hsz;have g0:=hbk.cell 0;simp at g0;go_wp2
 go_loopw [4,17] (fun _ i wr=>∃k:Nat,k≤l.length∧i=.int .i64 k∧Hid (∀j (hj:j<l.length),j<k→cF l[j]=0)∧Below W.heap.size W wr) (fun _ i _=>l.length-(intOf i).toNat)
 case atStart=>exact⟨0,Nat.zero_le _,rfl,fun j _ hj=>by omega,Below.refl _ _⟩
 case round =>
  clear g0;obtain⟨k,hk,rfl,hok,hbl⟩:=hrel;have hbk':=hbk.kept hbl;have g0:=hbk'.cell 0;simp at g0;have hblw:=hbW.trans (hbl.mono hzW)
  by_cases hlt:k<l.length
  ·obtain⟨b0,o0,vb,vp,vv,rfl,q0,q1,q2,q3,q4,hb,hp,hv⟩:=Hel.out k hlt;obtain⟨bA,bc,rfl,hf1⟩:=id hb;obtain⟨pA,pc,rfl,hf2⟩:=id hp;obtain⟨vA,vc,rfl,hf3⟩:=id hv;clear hf1 hf2 hf3;have c0:=Zaa hblw _ _ q0;have c1:=Zaa hblw _ _ q1;have c2:=Zaa hblw _ _ q2;have c3:=Zaa hblw _ _ q3;have c4:=Zaa hblw _ _ q4;have hb':=Lib.hid (hb.mono RDig.mono (Zaa hblw));have hp':=Lib.hid (hp.mono RDig.mono (Zaa hblw));have hv':=Lib.hid (hv.mono (Zaa hblw));have hx:Hid (∀e,cF l[k]=e→Zg4 l[k].hdr.author l[k].hdr.round l[k].hdr.batches l[k].hdr.parents l[k].voters=e):=fun e h=>h
   have hbadQ:Hid (cF l[k]≠0→Q=12):=fun h=>by rw[←hQ.out];exact Zvs Hbig.out hlt h
   have hnext:Hid (cF l[k]=0→∀j (hj:j<l.length),j<k+1→cF l[j]=0):=fun hq j hj hjk=>by
    by_cases e:j=k
    ·subst e;exact hq
    ·exact hok.out j hj (by omega)
   clear q0 q1 q2 q3 q4 hb hp hv;generalize l[k]=x at *;obtain⟨E,hE⟩:∃E,Hid (cF x=E):=⟨_,rfl⟩;rw[hE.out]at hnext hbadQ
   go_wp2_with fail
   refine Za7 _ _ _ (fun W=>Calls Tryz.prog _ _ W _) (fun W2 hk2 hsz2 hbW2=>?_);have qW:=Zaa hbW2;refine(Zek _ _ _ _ _ x.hdr.batches x.hdr.parents x.voters _ (hb'.out.mono RDig.mono qW) (hp'.out.mono RDig.mono qW) (hv'.out.mono qW)).mono ?_;rintro e w1 ⟨rfl,hb1⟩;have hb1:=hbW2.trans (hb1.mono hbW2.size);clear hk2 hsz2 hbW2 qW;rw[hx.out _ hE.out];have hbl1:=hbl.trans (hb1.mono hbl.size);clear hb' hp' hv' c0 c1 c2 c3 c4 g0 hx
   by_cases h0:E=0
   ·have hq:=Lib.hid (hnext.out h0);clear hnext hbadQ;subst h0;go_wp2;go_roundw
    case rel=>exact⟨k+1,by omega,by go_num,hq.out,hbl1⟩
    case measure=>simp[intOf];omega
   ·have HQ:=Lib.hid (hbadQ.out h0);clear hnext hbadQ;go_wp2;go_ret;exact⟨Zaj HQ.out.symm,hbW.trans (hbl1.mono hzW)⟩
  ·have hkl:k=l.length:=by omega
   have hval:=Zv9 (fun j hj=>hok.out j hj (by omega));have HQ1:Hid (Q=if (List.range l.length).any (badC hD l)then 12 else 0):=by show _=_;rw[←hQ.out,Zvr Hbig.out hval]
   have Hval:=Lib.hid hval;clear hval hQ hok
   go_wp2_with fail
   refine(Zq1 _ l _ (Hl.out.mono RCrt.mono (Zaa hblw)) (fun c hc=>Zv1 (Hval.out c hc)) (HT.out.mono (Zaa hblw))).mono ?_;rintro e w1 ⟨vd,rfl,hb1,od⟩;have hbl1:=hbl.trans (hb1.mono hbl.size);have hblw1:=hbW.trans (hbl1.mono hzW);have hDl:=Zgx l;have rD:=od.reads (RFrom.mono RDig.mono) (bs:=24) (by omega);have rD:RDigs w1.cell? vd (dsOf hD l):=RSl.weak (fun h cs x hr=>RDig.mono _ _ _ _ hr (View.from_le _ _)) rD;obtain⟨dA,dc,rfl,hdc,hform⟩:=id rD;clear hform;rw[hDl]at hdc;have HDl:=Lib.hid hDl;have RD:=Lib.hid rD;have hbk1:=hbk'.kept hb1;have hz1:=hbl1.size;clear g0;have g0:=hbk1.cell 0;simp at g0;clear hbk' rD od hDl hkl hlt hk;obtain⟨DN,hDN⟩:∃DN,Hid ((dsOf hD l).length=DN):=⟨_,rfl⟩;rw[hDN.out];have hDN':DN=l.length:=by rw[←hDN.out,HDl.out]
   go_wp2
   go_loopw [31] (fun i wr=>∃k:Nat,k≤l.length∧i=.int .i64 k∧Hid (∀j,j<k→badC hD l j=false)∧Below W.heap.size W wr∧Below w1.heap.size w1 wr) (fun i _=>l.length-(intOf i).toNat)
   case atStart=>exact⟨0,Nat.zero_le _,rfl,fun j hj=>by omega,hbl1,Below.refl _ _⟩
   case round =>
    clear g0;obtain⟨k,hk,rfl,hok,hbl2,hbl12⟩:=hrel;have hbk2:=hbk.kept hbl2;have g0:=hbk2.cell 0;simp at g0;have hz2:=hbl2.size;have hblw2:=hbW.trans (hbl2.mono hzW)
    by_cases hlt:k<l.length
    ·obtain⟨b0,o0,vb,vp,vv,rfl,q0,q1,q2,q3,q4,hb,hp,hv⟩:=Hel.out k hlt;have c0:=Zaa hblw2 _ _ q0;have c1:=Zaa hblw2 _ _ q1;have c2:=Zaa hblw2 _ _ q2;have c3:=Zaa hblw2 _ _ q3;have c4:=Zaa hblw2 _ _ q4;have hpw:=hp;have Hb:=Lib.hid (Zz1 hlt);have Hr:=Lib.hid (headF_zero (Zv1 (Hval.out l[k] (List.getElem_mem hlt))));have hsub:=(Hl.out.take (k:=k) (by omega)).mono RCrt.mono (Zaa hblw2);have hsubD:=(RD.out.take (k:=k) (by rw[HDl.out];omega)).mono RDig.mono (Zaa hbl12);have hlsub:((dsOf hD l).take k).length≤(l.take k).length:=by rw[List.length_take,List.length_take,HDl.out];omega
     have hkc:k≤c:=by omega
     have hkc':(k:Int)≤(c:Int):=by omega
     have hkd:k≤dc:=by omega
     have hkd':(k:Int)≤(dc:Int):=by omega
     have hnext:Hid (badC hD l k=false→∀j,j<k+1→badC hD l j=false):=fun hq j hj=>by
      by_cases e:j=k
      ·subst e;exact hq
      ·exact hok.out j (by omega)
     have hbadQ:Hid (badC hD l k=true→Q=12):=fun h=>by rw[HQ1.out,if_pos (Zb7 hlt h)]
     obtain⟨bA,bc,rfl,hf1⟩:=id hb;obtain⟨pA,pc,rfl,hf2⟩:=id hp;obtain⟨vA,vc,rfl,hf3⟩:=id hv;clear q0 q1 q2 q3 q4 hb hp hv hf1 hf2 hf3;generalize l[k]=x at *;generalize l.take k=L at hsub Hb hlsub;generalize (dsOf hD l).take k=Ds at hsubD Hb hlsub;generalize badC hD l k=BK at Hb hnext hbadQ;have Hb:Hid (BK=(Zhx L x.hdr||(Zgf L Ds x.hdr||decide (0<(Zgg Ds x.hdr).length)))):=by show _=_;rw[Hb.out,Zze]
     have hNl:(Zgg Ds x.hdr).length*24≤140737488355328:=Nat.le_trans (Nat.mul_le_mul_right _ (List.length_filter_le _ _)) (by obtain⟨_,_,_,_,_,h,_⟩:=hpw;exact h)
     go_wp2_with fail
     refine Za7 _ _ _ (fun W=>(Code.region _ _ _).wp _ _ _ W) (fun W2 hk2 hsz2 hbW2=>?_);clear hsz2 c0 c1 c2 c3 c4 g0;have hblw3:=hblw2.trans (hbW2.mono hblw2.size);have hbl3:=hbl2.trans (hbW2.mono hz2);have hbk3:=hbk2.kept hbW2;have hsub:=hsub.mono RCrt.mono (Zaa hbW2);have hsubD:=hsubD.mono RDig.mono (Zaa hbW2);have hp3:=hpw.mono RDig.mono (Zaa hblw3);clear hpw;have hblS:∀W',Below W2.heap.size W2 W'→Below W.heap.size W W':=fun W' h=>hbl3.trans (h.mono hbl3.size)
     refine Zr [14] (.q 0 (.q 1 (.q 2 (.q 3 (.q 4 (.q 5 (.q 6 (.q 7 (.q 8 (.l 9 (.q 10 (.q 11 (.q 12 (.q 13 (.qc 14 .nil))))))))))))))) fun W3 hS3=>?_
     repeat((first|refine pq (h:=⟨_,fun w' hS=>by(have hq:=hbk3.kept hS;have h0:=hq.cell 0;have hh:=hk2.kept hS;have h1:=hh.cell 0;have h2:=hh.cell 1;have h3:=hh.cell 2;have h4:=hh.cell 3;simp at h0 h1 h2 h3 h4;go_simp;exact rfl),?_⟩)|refine Zq ?_);simp only[sx])
     refine Zd fun K hK=>?_
     try simp only[sy]
     go_simp;refine(Zhi _ _ L Ds x.hdr _ _ _ (hsub.mono RCrt.mono (Zaa hS3)) (hsubD.mono RDig.mono (Zaa hS3)) (hp3.mono RDig.mono (Zaa hS3)) hlsub Hr.out.1 Hr.out.2.1).mono ?_;rintro e w4 ⟨v4,rfl,hb4,o4⟩;have hb5:=hS3.trans (hb4.mono hS3.size);generalize Zgg Ds x.hdr=N at o4 Hb hNl;generalize Zgf L Ds x.hdr=MW at Hb;obtain⟨nA,nc,rfl⟩:=o4.form;obtain⟨nl,hnl⟩:∃nl,Hid (N.length=nl):=⟨_,rfl⟩;rw[hnl.out]at Hb;rw[hnl.out];clear o4 hNl;refine hK.out _ _ (hb5) fun hS=>?_
     clear hK K
     try simp only[sx]
     repeat(refine Zq ?_;simp only[sx])
     refine Zah ?_;have hbk5:=hbk3.kept hb5;have hk5:=hk2.kept hb5;have hsub5:=hsub.mono RCrt.mono (Zaa hb5);have hbl5:=hblS _ hb5;have hbl15:Below w1.heap.size w1 w4:=(hbl12.trans (hbW2.mono hbl12.size)).trans (hb5.mono (Nat.le_trans hbl12.size hbW2.size));clear hsub hsubD hp3 hb4 hS3
     by_cases hpos:0<nl
     ·have HQ:=Lib.hid (hbadQ.out (by rw[Hb.out];simp[hpos]));have hpos':(0:Int)<nl:=by omega
      clear Hb hnext hbadQ
      go_wp2_with fail
      refine Zr [] (.q 0 (.q 1 (.q 2 (.q 3 (.q 4 (.q 5 (.q 6 (.q 7 (.q 8 (.q 9 (.q 10 (.q 11 (.q 12 (.l 13 (.q 14 .nil))))))))))))))) fun W6 hS6=>?_
      repeat(refine Zq ?_;simp only[sx])
      refine Zah ?_;go_wp2;go_ret;exact⟨Zaj HQ.out.symm,hbW.trans ((hbl5.trans (hS6.mono hbl5.size)).mono hzW)⟩
     ·have hz0:nl=0:=by omega
      rw[hz0]at Hb⊢;cases MW
      ·have Hb:Hid (BK=Zhx L x.hdr):=by show _=_;rw[Hb.out];simp
       go_wp2_with fail
       refine Zr [] (.q 0 (.q 1 (.q 2 (.q 3 (.q 4 (.q 5 (.q 6 (.q 7 (.q 8 (.q 9 (.q 10 (.q 11 (.q 12 (.l 13 (.q 14 .nil))))))))))))))) fun W6 hS6=>?_
       repeat((first|refine pq (h:=⟨_,fun w' hS=>by(have hq:=hbk5.kept hS;have h0:=hq.cell 0;have hh:=hk5.kept hS;have h1:=hh.cell 0;have h2:=hh.cell 1;have h3:=hh.cell 2;have h4:=hh.cell 3;simp at h0 h1 h2 h3 h4;go_simp;exact rfl),?_⟩)|refine Zq ?_);simp only[sx])
       refine Zd fun K hK=>?_
       try simp only[sy]
       go_simp;refine(Zif _ L x.hdr _ _ _ (hsub5.mono RCrt.mono (Zaa hS6))).mono ?_;rintro e w7 ⟨rfl,hb7⟩;have hb8:=hS6.trans (hb7.mono hS6.size);obtain⟨TK,hTK⟩:∃TK,Hid (Zhx L x.hdr=TK):=⟨_,rfl⟩;rw[hTK.out];rw[hTK.out]at Hb;cases TK
       ·have hq:=Lib.hid (hnext.out Hb.out);clear hnext hbadQ Hb hTK;refine hK.out _ _ (hb8) fun hS=>?_
        clear hK K
        try simp only[sx]
        repeat(refine Zq ?_;simp only[sx])
        refine Zah ?_;go_wp2;go_roundw
        case rel=>exact⟨k+1,by omega,by go_num,hq.out,hbl5.trans (hb8.mono hbl5.size),hbl15.trans (hb8.mono hbl15.size)⟩
        case measure=>simp[intOf];omega
       ·have HQ:=Lib.hid (hbadQ.out Hb.out);clear hnext hbadQ Hb hTK;refine hK.out _ _ (hb8) fun hS=>?_
        clear hK K
        try simp only[sx]
        repeat(refine Zq ?_;simp only[sx])
        refine Zah ?_;go_wp2;go_ret;exact⟨Zaj HQ.out.symm,hbW.trans ((hbl5.trans (hb8.mono hbl5.size)).mono hzW)⟩
      ·have HQ:=Lib.hid (hbadQ.out (by rw[Hb.out];simp));clear Hb hnext hbadQ
       go_wp2_with fail
       refine Zr [] (.q 0 (.q 1 (.q 2 (.q 3 (.q 4 (.q 5 (.q 6 (.q 7 (.q 8 (.q 9 (.q 10 (.q 11 (.q 12 (.l 13 (.q 14 .nil))))))))))))))) fun W6 hS6=>?_
       repeat(refine Zq ?_;simp only[sx])
       refine Zah ?_;go_wp2;go_ret;exact⟨Zaj HQ.out.symm,hbW.trans ((hbl5.trans (hS6.mono hbl5.size)).mono hzW)⟩
    ·have HQ:Hid (Q=0):=by
      show _=_;rw[HQ1.out,if_neg];rw[Bool.not_eq_true];exact Zdo fun j hj=>hok.out j (by omega)
     go_wp2;go_ret;exact⟨Zaj HQ.out.symm,hblw2⟩
theorem Zfh{n:Nat}(hgd:o.guard=none)(ho:o.op=.store t x y)(hx:a.eval x=.pointer (some ⟨g,off,none⟩))(hy:a.eval y=v)(hi:(P.info? t).map (·.size)=some n)(hn:v.cells.size=n)(hb:Blk w g te cs)(hfit:off+n≤cs.size)(h1:(v.cells.toList.all fun u=>u.oneCell')=true)(h:∀w',Blk w' g te (cs.toList.take off++(v.cells.toList++cs.toList.drop (off+n))).toArray→w.grownBy w' (some g)→wpList P ops Q rest (a.put o.dst undef) w'):wpList P ops Q (o::rest) a w :=
 wpList_plain hgd fun _ hK=>Zav ho hx hy hi hn hb hfit h1 fun w' h2 h3=>hK _ _ (h w' h2 h3)
theorem OwnSl.low(hR:Mono R)(h:OwnSl sz (RFrom b R) e w b v xs)(hg:w.grownBy w' (some g))(hne:g<b):OwnSl sz (RFrom b R) e w' b v xs:=by
 obtain⟨css,h1,h2,h3⟩:=h.own;have hlt:=h1.lt;refine⟨css,h1.kept hg (.inr (fun e=>by have:=(hlt g e).1;omega)),h2,fun i hi=>?_⟩;obtain⟨cs,q1,q2,q3⟩:=h3 i hi;refine⟨cs,q1,q2,hR _ _ _ _ q3 (fun a u hu=>?_)⟩;unfold View.from at hu⊢;split at hu
 ·cases hu
 ·rename_i hlt';rw[if_neg hlt'];unfold View.but at hu⊢;split at hu
  ·cases hu
  ·rename_i hne';rw[if_neg hne'];exact hg.cell hu (by intro e;injection e;omega)
theorem OwnSl.low_ne(h:OwnSl sz R e w b v xs)(hg:g<b):some g≠v.ownBlock:=fun e=>by have:=(h.lt g e.symm).1;omega
theorem RFrom.weaken{b':Nat}(hR:Mono R)(hb:b'≤b){cs:List Value}{x:α}(hr:RFrom b R h cs x):RFrom b' R h cs x:=hR _ _ _ _ hr (Za8 hb)
theorem OwnSl.baseR(hR:Mono R){b':Nat}(h:OwnSl sz (RFrom b R) e w b v xs)(hb:b'≤b):OwnSl sz (RFrom b' R) e w b' v xs:=by
 obtain⟨css,h1,h2,h3⟩:=(h.base hb).own;exact⟨css,h1,h2,fun i hi=>by obtain⟨cs,q1,q2,q3⟩:=h3 i hi;exact⟨cs,q1,q2,RFrom.weaken hR hb q3⟩⟩
theorem below_2(w:World)(o1 o2:Obj):Below w.heap.size w ((w.alloc o1).alloc o2):=((Below.refl _ _).alloc (Nat.le_refl _) _).alloc (Zau _ (Nat.le_refl _)) _
end Go.Proofs.YtinibgklgehdpaaGreatDoor
