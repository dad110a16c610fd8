/- A part of what the last text stands on. -/
import Derived.Test.YtinibgklgehdpaaGreatDoorK13
import Derived.Test.YtinibgklgehdpaaGreatDoorK33
import Derived.Test.YtinibgklgehdpaaGreatDoorK34
namespace Go.Proofs.YtinibgklgehdpaaGreatDoor
open Go.ChangeShapes Go.WideShapes Go.ChangeAt Go.RowKit Qa Qb Qc
set_option linter.all false
set_option maxHeartbeats 20000000
set_option maxRecDepth 100000
variable{P:Program}{w W:World}{a:Act}{o:Oper}{Q:Exit→Act→World→Prop}{K:Act→World→Prop}{cur:Array Value}{e t:TypeId}{k i g off sz b c:Nat}{n:Fl.Nd}{ms:List Msg}
namespace Fl
def nilV:Vals:=⟨.slice none 0 0,.slice none 0 0,.slice none 0 0,.slice none 0 0,.slice none 0 0,.pointer none,.slice none 0 0,.slice none 0 0,.slice none 0 0,.slice none 0 0⟩
theorem Zo4(o:Own)(w:World)(i:Nat)(me:Int):NdR o w i (fresh me) nilV :=
 ⟨RVec.nil _ _ _,(fun s hs=>by cases hs),Row.nil _ _ _ _ _ _,Row.nil _ _ _ _ _ _,Row.nil _ _ _ _ _ _,RCrts.nil _,rfl,RVec.nil _ _ _,Row.nil _ _ _ _ _ _,RVec.nil _ _ _,Row.nil _ _ _ _ _ _⟩
theorem Zpc(me:Int)(w:World) :
 Calls Tryz.prog 51 #[.int .i64 me] w fun e w'=>e=.returned (.agg (ndC (fresh me) nilV).toArray)∧Below w.heap.size w w':=by
 go_enter Tryz.func51,Tryz.ntmps51
 have hn:=Blk.new w 116 #[.int .i64 0,.bool false,.int .i64 0,.slice none 0 0,.slice none 0 0,.slice none 0 0,.slice none 0 0,.slice none 0 0,.pointer none,.slice none 0 0,.slice none 0 0,.slice none 0 0,.int .i64 0,.slice none 0 0,.int .i64 0];have hb:=Zac w (.cells #[.int .i64 0,.bool false,.int .i64 0,.slice none 0 0,.slice none 0 0,.slice none 0 0,.slice none 0 0,.slice none 0 0,.pointer none,.slice none 0 0,.slice none 0 0,.slice none 0 0,.int .i64 0,.slice none 0 0,.int .i64 0] 116)
 go_wp2_with (refine Zj 15 hn ?_)
 intro w2 hk hg;have hb2:Below w.heap.size w w2:=Zab hb hb.size hg (by intro k e;injection e;omega);go_wp2;refine bodyPost_ret (Zay rfl rfl (by kernel_rfl) (by kernel_rfl) hk rfl) rfl ?_;exact⟨rfl,hb2⟩
theorem Zxr{T:Nat×Nat→Prop}{o:Own}(hl:Lim o w)(hb:Below w.heap.size w W)(h0:w.heap.size≤b)(hlt:b<W.heap.size)(t:Nat×Nat)(h7:t.1≠7):Fr T o w (mark o b (some t)) W:=by
 have hf:=Fr.of_below (T:=T) hl hb;refine⟨hb.os,hb.tape,hb.output,hb.size,hf.lim.mark hlt (fun k hk=>by injection hk with hk;rw[hk]at h7;exact absurd rfl h7),fun x hx hn=>?_,fun x t' hx hob hT=>⟨t',by rw[Zbz _ _ (by omega)];exact hob,hT⟩⟩;rw[Zbz _ _ (by omega)];exact hf.keep x hx hn
theorem Zvm{n0:Nd}(hk:k<ms.length):(ms.take (k+1)).foldl recS n0=recS ((ms.take k).foldl recS n0) ms[k]:=by
 rw[List.take_succ_eq_append_getElem hk,List.foldl_append];rfl
theorem Zrq:∀(ms:List Msg) (n:Nd),(ms.foldl recS n).me=n.me
 |[],_=>rfl
 |m::ms,n=>by rw[List.foldl_cons,Zrq ms,Zza]
theorem Zy8{o:Own}{gh:Nat}{h:Hdr}{vb vp:Value}(hn:o gh=none)(H:Blk w gh 51 #[.int .i64 h.author,.int .i64 h.round,vb,vp])(rb:RDigs (Zas o w) vb h.batches)(rp:RDigs (Zas o w) vp h.parents):ROwn (Zas o w) (.pointer (some ⟨gh,0,none⟩)) (some h):=by
 have c:∀j,Zas o w ⟨gh,j,none⟩=w.cell? ⟨gh,j,none⟩:=fun j=>by unfold Zas;rw[if_neg (by rw[hn];simp)]
 refine⟨gh,vb,vp,rfl,?_,?_,?_,?_,rb,rp⟩
 ·rw[c];have:=H.cell 0;simpa using this
 ·rw[c];have:=H.cell 1;simpa using this
 ·rw[c];have:=H.cell 2;simpa using this
 ·rw[c];have:=H.cell 3;simpa using this
theorem Sec.range{cs:List Value}(h:Sec w g 0 cs):w.rangeAt g 0 cs:=fun j u hu=>by
 obtain⟨hj,e⟩:=List.getElem?_eq_some_iff.1 hu
 have:=h.cell hj
 rw[this,e]
theorem NdR.one{o:Own}{v:Vals}(h:NdR o w i n v):((ndC n v).all fun u=>u.oneCell')=true:=by
 obtain⟨tx,ba,di,ta,da,ow,mi,vo,tp,ou⟩:=v;obtain⟨A1,c1,e1,_⟩:=h.tx;obtain⟨A2,c2,e2⟩:=h.ba.form;obtain⟨A3,c3,e3⟩:=h.di.form;obtain⟨A4,c4,e4⟩:=h.ta.form;obtain⟨A5,c5,e5,_⟩:=h.da;obtain⟨A7,c7,e7,_⟩:=h.mi;obtain⟨A8,c8,e8⟩:=h.vo.form;obtain⟨A9,c9,e9,_⟩:=h.tp;obtain⟨A0,c0,e0⟩:=h.ou.form;have e6:=h.ow;simp only at e1 e2 e3 e4 e5 e6 e7 e8 e9 e0;subst e1 e2 e3 e4 e5 e7 e8 e9 e0;cases ho:n.own with
 |none=>rw[ho]at e6;have e6:ow=.pointer none:=e6;subst e6;rfl
 |some x=>rw[ho]at e6;obtain⟨b,vb,vp,e6,_⟩:=e6;subst e6;rfl
theorem Sec.putNx{v:Vals}{x:Int}(h:Sec w g off ((ndC n v).take 2++([Value.int .i64 x]++(ndC n v).drop (2+[Value.int .i64 x].length)))):Sec w g off (ndC {n with nx:=x } v):=h
theorem NdR.setNx{o:Own}{v:Vals}(h:NdR o w i n v)(x:Int):NdR o w i {n with nx:=x } v:=⟨h.tx,h.small,h.ba,h.di,h.ta,h.da,h.ow,h.mi,h.vo,h.tp,h.ou⟩
theorem Zvv(i gf:Nat)(f:Ft)(keep:Nat)(o:Own)(w:World)(hi:i<4)(hF:FtAt o w gf f)(hT:Tabs (Zas o w))(hme:(Zan f i).me=i)(htm:Zba (Zan f i).tl (Zan f i).ty=true)(hk:keep≤400000)(hfit:∀tl ty,(∀q,CrFit (((rcvM (crL (Zan f i).tl (Zan f i).ty keep) (crA (Zan f i).tl (Zan f i).ty keep)).take q).foldl recS (cr0 i tl ty)))∧(∀m∈rcvM (crL (Zan f i).tl (Zan f i).ty keep) (crA (Zan f i).tl (Zan f i).ty keep),m.kind=1→(1≤m.bat.number∧m.bat.number≤1048576)∧∀s∈m.bat.txs,s.size≤20)) :
 Calls Tryz.prog 116 #[.pointer (some ⟨gf,0,none⟩),.int .i64 (i:Int),.int .i64 (keep:Int)] w fun e w'=>e=.returned (.tuple #[])∧∃o',Fr All o w o' w'∧FtAt o' w' gf (Za1 f i (crash (Zan f i) i keep)):=by
 obtain⟨n,hn⟩:∃n,Hid (Zan f i=n):=⟨_,rfl⟩;obtain⟨QR,hQR⟩:∃q,Hid (crash (Zan f i) i keep=q):=⟨_,rfl⟩;obtain⟨ct1,ct2,hty0⟩:=Ztg (keep:=(keep:Int)) htm (by omega);have N0:=hF.node i hi;rw[hQR.out];rw[hn.out]at N0 htm hfit ct1 ct2 hty0 hQR;obtain⟨ML,hML⟩:∃q,Hid (rcvM (crL n.tl n.ty keep) (crA n.tl n.ty keep)=q):=⟨_,rfl⟩;obtain⟨DL,hDL⟩:∃q,Hid (rcvD (crL n.tl n.ty keep) (crA n.tl n.ty keep)=q):=⟨_,rfl⟩;obtain⟨YL,hYL⟩:∃q,Hid (rcvY (crL n.tl n.ty keep) (crA n.tl n.ty keep)=q):=⟨_,rfl⟩;have HQ:Hid (QR=ML.foldl recS (cr0 i DL YL)):=by show _=_;rw[←hQR.out,Zth,hML.out,hDL.out,hYL.out]
 rw[hML.out]at hfit;have Hfit:=Lib.hid (hfit DL YL);obtain⟨a,ha⟩:∃a:Nat,n.ty=a:=⟨n.ty.toNat,by omega⟩;obtain⟨cl,hcl⟩:∃cl,Hid (n.tl.take (Zds n.ty keep n.tl.length)=cl):=⟨_,rfl⟩;obtain⟨ca,hca⟩:∃ca:Nat,Hid (Zds n.ty keep n.tl.length=ca):=⟨_,rfl⟩;rw[ct1,ct2,hcl.out,hca.out]at hML hDL hYL;rw[ha]at hcl hca htm;have Htm:=Lib.hid htm;have Hme:=Lib.hid hme;clear hfit ct1 ct2 htm hme hQR hty0;obtain⟨off,hoff⟩:∃off,Hid (1+i*15=off):=⟨_,rfl⟩;rw[hoff.out]at N0;obtain⟨hmk,⟨vtx,vba,vdi,vta,vda,vow,vmi,vvo,vtp,vou⟩,S0,R0⟩:=id N0;have l0:=hF.lim;have s11:=S0.nd11;have s12:=S0.nd12;simp only at s11 s12;rw[ha]at s12;rw[←hoff.out]at s11 s12;have rtp:Zao w.cell? vtp n.tl:=R0.tp.mono (Zag _ _);obtain⟨tpA,tpc,htp,_⟩:=id rtp;have htp:vtp=.slice tpA n.tl.length tpc:=htp;subst htp;have hiI:(i:Int)<4:=by omega
 have hi0:(0:Int)≤(i:Int):=by omega
 clear S0 R0 N0 ha
 go_enter Tryz.func116,Tryz.ntmps116
 go_wp2_with fail
 refine(Zvt a keep _ n.tl w rtp Htm.out (by omega)).mono ?_;rintro e w1 ⟨d,rfl,hb1,rd⟩;rw[hcl.out]at rd;rw[hca.out];obtain⟨dA,dc,rfl,hfd⟩:=id rd;clear hfd;have F1:=hF.below hb1
 go_upto_region 1 with fail
 refine Zo fun W hk6 hsz hbW=>?_
 have F2:=F1.below hbW;have rd2:=rd.mono (Zaa hbW);have k0:=hk6.cell 0;have k1:=hk6.cell 1;simp at k0 k1
 go_wp2_with fail
 refine(Zoy ca _ cl W rd2).mono ?_;rintro e w3 ⟨vm,vd,rfl,hb3,rm,rdd⟩;rw[hML.out]at rm;rw[hDL.out]at rdd;rw[hYL.out];obtain⟨mA,mc,rfl,hfm⟩:=id rm;obtain⟨vA,vc,rfl,hfv⟩:=id rdd;clear hfm hfv;have F3:=F2.below hb3;have hk63:=hk6.kept hb3;have ex:Ext W.heap.size w3 w3:=Ext.refl _ _;have hzW:w.heap.size≤W.heap.size:=Nat.le_trans hb1.size hbW.size;have hlt6:=hk6.lt
 go_wp2_with (refine Zj 2 hk63 ?_)
 intro w4 hk64 hg4;have ex:=ex.store hg4 (.inl hlt6);have hb24:Below w1.heap.size w1 w4:=Zab (hbW.trans (hb3.mono hbW.size)) (by have:=hbW.size;have:=hb3.size;omega) hg4 (by intro k e;injection e;omega);have F4:=F1.below hb24;clear k0 k1
 go_wp2_with fail
 refine(Zpc (i:Int) w4).mono ?_;rintro e w5 ⟨rfl,hb5⟩;have F5:=F4.below hb5;have hk65:=hk64.kept hb5;have ex:=ex.below hb5;have l5:=F5.lim;have rm5:=rm.mono RMsgR.mono (ex.hide l0 hzW);have rd5:=rdd.mono (ex.hide l0 hzW);have hn10:=Blk.new w5 116 #[.int .i64 0,.bool false,.int .i64 0,.slice none 0 0,.slice none 0 0,.slice none 0 0,.slice none 0 0,.slice none 0 0,.pointer none,.slice none 0 0,.slice none 0 0,.slice none 0 0,.int .i64 0,.slice none 0 0,.int .i64 0];have hb10:=Zac w5 (.cells #[.int .i64 0,.bool false,.int .i64 0,.slice none 0 0,.slice none 0 0,.slice none 0 0,.slice none 0 0,.slice none 0 0,.pointer none,.slice none 0 0,.slice none 0 0,.slice none 0 0,.int .i64 0,.slice none 0 0,.int .i64 0] 116);unfold ndC fresh nilV
 go_wp2_with (refine Zj 15 hn10 ?_)
 intro w6 hk10 hg6;have hb6:Below w5.heap.size w5 w6:=Zab hb10 hb10.size hg6 (by intro k e;injection e;omega);have hk66:=hk65.kept hb6
 go_upto_region 3 with fail
 refine Zt (fun w'=>Below w6.heap.size w6 w') (fun w'=>Blk w' w1.heap.size 113 #[.slice vA DL.length vc,.int .i64 YL]) [4] (.q 0 (.q 1 (.l 2 (.q 3 (.l 4 .nil))))) ?_ ?_
 ·exact⟨Zad _,hk66.drew⟩
 intro w7 hS0 hS
 repeat((first|refine pq (h:=⟨_,fun w' hS=>by(have y0:=hS.cell 0;have y1:=hS.cell 1;simp at y0 y1;go_simp;exact rfl),?_⟩)|refine Zq ?_);simp only[sx])
 have hk107:=hk10.kept hS0;have hne:w1.heap.size≠w5.heap.size:=by have:=hk65.lt;omega
 refine Zd fun K hK=>?_
 try simp only[sy]
 refine Zav (n:=1) rfl rfl rfl (by kernel_rfl) rfl hk107 (by simp) rfl ?_;intro w8 hk108 hg8;refine hK.out _ _ (hS.grown hg8 (by intro e;injection e with e;exact hne e)) fun hS=>?_
 clear hK K
 try simp only[sx]
 repeat(refine Zq ?_;simp only[sx])
 refine Zc fun K hK=>?_
 try simp only[sy]
 refine Zav (n:=2) rfl rfl rfl (by kernel_rfl) rfl hk108 (by simp) rfl ?_;intro w9 hk109 hg9;have hk109:Blk w9 w5.heap.size 116 #[.int .i64 (i:Int),.bool false,.int .i64 1,.slice none 0 0,.slice none 0 0,.slice none 0 0,.slice none 0 0,.slice none 0 0,.pointer none,.slice none 0 0,.slice none 0 0,.slice vA DL.length vc,.int .i64 YL,.slice none 0 0,.int .i64 0]:=hk109;have hb9:Below w5.heap.size w5 w9:=Zab (Zab (hb6.trans (hS0.mono hb6.size)) (by have:=hb6.size;have:=hS0.size;omega) hg8 (by intro k e;injection e;omega)) (by have:=hb6.size;have:=hS0.size;have:=hg8.size;omega) hg9 (by intro k e;injection e;omega);refine hK.out _ _ ?_;clear hK K
 try simp only[sx]
 repeat(refine Zq ?_;simp only[sx])
 refine Zah ?_;have f9:=Zxr (T:=fun _=>False) l5 hb9 (Nat.le_refl _) hk109.lt (8,1) (by decide);have hm9:=Zc7 o w5.heap.size (some (8,1));have A9:Fr All o w (mark o w5.heap.size (some (8,1))) w9:=All.trans (Fr.of_below l0 (hb1.trans ((hb24.trans (hb5.mono hb24.size)).mono hb1.size))) f9.all;have F9:=F5.fr f9 (fun _ _ _ _ h=>h) (fun h=>h);have rm9:=rm5.mono RMsgR.mono f9.view;have rd9:=rd5.mono f9.view;have T9:Tabs (Zas (mark o w5.heap.size (some (8,1))) w9):=(hT.mono (Zae l0 (hb1.trans ((hb24.trans (hb5.mono hb24.size)).mono hb1.size)))).mono f9.view;obtain⟨gn,hgn⟩:∃gn,gn=w5.heap.size:=⟨_,rfl⟩;rw[←hgn]at hk109 hm9 A9 F9 rm9 rd9 T9⊢;have Hgn:=Lib.hid hgn;clear hgn;generalize mark o gn (some (8,1))=o9 at *
 have N9:NodeAt o9 w9 4 1 gn 0 (cr0 i DL YL):=by
  refine⟨hm9,{ nilV with tp:=.slice vA DL.length vc },⟨_,_,hk109,Nat.le_refl _,fun j hj=>?_⟩,?_⟩
  ·rw[Nat.zero_add];exact(Array.getElem?_toList).symm
  ·exact((Zo4 o9 w9 4 i).setUp false).setTp (y:=YL) rd9
 have l9:=F9.lim;clear hS hk107 hne hk108 hg8 hk109 hg9 hb9 f9 rm5 rd5 hn10 hb10 hk10 hg6 hb6 hk66 hS0 ex hk65 F5 hb5 l5 F4 hb24 hk64 hg4 hlt6 hzW hk63 F3 rm rdd hb3 rd2 F2 hk6 hsz hbW F1 rd hb1 hn hML hDL hYL hcl hca Htm rd9 s11 s12 rtp hm9
 go_wp2_with fail
 go_loopw [12,13,14,15,16,42,48,68,94,103] (fun _ _ _ _ _ j _ _ _ _ wr=>∃(k:Nat) (o':Own),k≤ML.length∧j=.int .i64 k∧NFr 4 1 gn 0 o9 w9 o' wr∧NodeAt o' wr 4 1 gn 0 ((ML.take k).foldl recS (cr0 i DL YL))) (fun _ _ _ _ _ j _ _ _ _ _=>ML.length-(intOf j).toNat)
 case atStart=>exact⟨0,o9,Nat.zero_le _,rfl,NFr.refl l9,N9⟩
 case round =>
  obtain⟨k,o1,hk1,rfl,K1,N1⟩:=hrel;have l1:=K1.fr.lim;have T1:=T9.mono K1.fr.view;have rmr:=rm9.mono RMsgR.mono K1.fr.view
  by_cases hlt:k<ML.length
  ·have hltI:(k:Int)<ML.length:=by omega
   obtain⟨A9',c9,he9,hlc,hlm,hlb,-,h59⟩:=id rmr;injection he9 with he1 _ he3;subst he1 he3;obtain⟨bb,bo,hA,hcc⟩:=h59 (by omega);subst hA;obtain⟨cs9,-,hcell,⟨vt,vb,vp,vd',cb,cp,cv,rfl,rmm⟩⟩:=hcc k hlt;have hst:=Lib.hid (Zvm (n0:=cr0 i DL YL) hlt);have hfk:=Lib.hid (Hfit.out.1 k);have hmk':=Lib.hid (Hfit.out.2 ML[k] (List.getElem_mem hlt));obtain⟨nk,hnk⟩:∃nk,Hid ((ML.take k).foldl recS (cr0 i DL YL)=nk):=⟨_,rfl⟩;have hmek:Hid (nk.me=(i:Int)):=by show _=_;rw[←hnk.out,Zrq];rfl
   obtain⟨nk1,hnk1⟩:∃nk1,Hid ((ML.take (k+1)).foldl recS (cr0 i DL YL)=nk1):=⟨_,rfl⟩;rw[hnk.out]at N1 hst hfk;rw[hnk1.out]at hst;generalize ML[k]=m at *;have rm0:=rmm;obtain⟨⟨tA,tc,rfl⟩,⟨bA,bc,rfl⟩,⟨pA,pc,rfl⟩,⟨dA',dc',rfl⟩,⟨cA,cc,rfl⟩,⟨qA,qc,rfl⟩,⟨eA,ec,rfl⟩⟩:=rm0.forms;clear rm0 h59 hcc
   have hcs:∀j v,(#[.int .i64 m.src,.int .i64 m.dst,.int .i64 m.kind,.int .i64 m.bat.author,.int .i64 m.bat.number,.slice tA m.bat.txs.length tc,.int .i64 m.hdr.author,.int .i64 m.hdr.round,.slice bA m.hdr.batches.length bc,.slice pA m.hdr.parents.length pc,.int .i64 m.slt.author,.int .i64 m.slt.round,.slice dA' m.slt.digest.length dc',.int .i64 m.crt.hdr.author,.int .i64 m.crt.hdr.round,.slice cA m.crt.hdr.batches.length cc,.slice qA m.crt.hdr.parents.length qc,.slice eA m.crt.voters.length ec,.int .i64 m.round]:Array Value).toList[j]?=some v→wr.cell? ((⟨bb,bo+k*19,none⟩:Addr).add j)=some v:=fun j v hj=>by
    have hj':j<19:=(List.getElem?_eq_some_iff.1 hj).1;rw[Zbs];exact Zag _ _ _ _ ((hcell j hj').trans hj)
   clear hcell
   go_upto_block 1 with fail
   go_cut [12,13,14,15,16,44,45,46,47,48,68,94,103] (fun _ _ _ _ _ _ _ _ _ _ _ _ _ w'=>∃o',NFr 4 1 gn 0 o9 w9 o' w'∧NodeAt o' w' 4 1 gn 0 (recS nk m))
   case first =>
    have hn:=Blk.new wr 66 #[.int .i64 0,.int .i64 0,.int .i64 0,.int .i64 0,.int .i64 0,.slice none 0 0,.int .i64 0,.int .i64 0,.slice none 0 0,.slice none 0 0,.int .i64 0,.int .i64 0,.slice none 0 0,.int .i64 0,.int .i64 0,.slice none 0 0,.slice none 0 0,.slice none 0 0,.int .i64 0];have hb0:=Zac wr (.cells #[.int .i64 0,.int .i64 0,.int .i64 0,.int .i64 0,.int .i64 0,.slice none 0 0,.int .i64 0,.int .i64 0,.slice none 0 0,.slice none 0 0,.int .i64 0,.int .i64 0,.slice none 0 0,.int .i64 0,.int .i64 0,.slice none 0 0,.slice none 0 0,.slice none 0 0,.int .i64 0] 66)
    go_wp2_with (first|(refine Zbd (n:=19) (#[.int .i64 m.src,.int .i64 m.dst,.int .i64 m.kind,.int .i64 m.bat.author,.int .i64 m.bat.number,.slice tA m.bat.txs.length tc,.int .i64 m.hdr.author,.int .i64 m.hdr.round,.slice bA m.hdr.batches.length bc,.slice pA m.hdr.parents.length pc,.int .i64 m.slt.author,.int .i64 m.slt.round,.slice dA' m.slt.digest.length dc',.int .i64 m.crt.hdr.author,.int .i64 m.crt.hdr.round,.slice cA m.crt.hdr.batches.length cc,.slice qA m.crt.hdr.parents.length qc,.slice eA m.crt.voters.length ec,.int .i64 m.round]:Array Value).toList rfl rfl rfl rfl (by kernel_rfl) (by kernel_rfl) (by kernel_rfl) hcs ?_)|(refine Zj 19 hn ?_))
    intro W2 hX hgX;have hbX:Below wr.heap.size wr W2:=Zab hb0 hb0.size hgX (by intro k e;injection e;omega);clear hn hb0 hgX hcs
    go_upto_region 7 with fail
    have K2:=K1.below hbX;have N2:=N1.below l1 hbX;have l2:=Zam l1 hbX;have v2:=Zae l1 hbX;have rm2:=rmm.mono v2;have T2:=T1.mono v2;have hx0:=l1.none wr.heap.size (Nat.le_refl _);have e2:=hX.cell 2;simp at e2;obtain⟨K,hK⟩:∃K,Hid (m.kind=K):=⟨_,rfl⟩;rw[hK.out]at e2;clear K1 N1 l1 T1 rmr rmm v2 hbX
    by_cases k1:K=1
    ·have kb:(K==1)=true:=by simpa using k1
     have hsz:=hmk'.out (hK.out.trans k1);have hszT:∀s∈m.bat.txs,s.size≤140737488355328:=fun s hs=>Nat.le_trans (hsz.2 s hs) (by decide)
     have hnb:=hsz.1
     have hr:Hid (recS nk m=if m.bat.author=(i:Int)then {(store nk m.bat false).1 with nx:=max nk.nx (m.bat.number+1) } else(store nk m.bat false).1):=by
      show _=_;unfold recS;rw[if_pos (hK.out.trans k1),hmek.out,(Zgo nk m.bat false).nx]
     have c3:=hX.cell 3;have c4:=hX.cell 4;have c5:=hX.cell 5;simp at c3 c4 c5;clear k1 hsz
     go_wp2_with fail
     refine(Zke 4 1 gn 0 nk m.bat false _ o1 W2 l2 (by decide) N2 T2 rm2.txs hszT (by rw[hfk.out.dd];exact hfk.out.bats) hfk.out.bats).mono ?_;rintro e w3 ⟨rfl,o3,K3,N3⟩;have hX3:=Za3 hX K3.fr hx0;have K23:=K2.trans K3;have c3:=hX3.cell 3;have c4:=hX3.cell 4;simp at c3 c4
     by_cases ha:m.bat.author=(i:Int)
     rotate_left
     ·have hab:(m.bat.author==(i:Int))=false:=by simpa using ha
      have hres:NodeAt o3 w3 4 1 gn 0 (recS nk m):=by rw[hr.out,if_neg ha];exact N3
      clear N3 hr ha
      go_wp2_with fail
      go_meet;exact⟨o3,K23,hres⟩
     have hab:(m.bat.author==(i:Int))=true:=by simpa using ha
     have hr2:Hid (recS nk m={ (store nk m.bat false).1 with nx:=max nk.nx (m.bat.number+1) }):=by show _=_;rw[hr.out,if_pos ha]
     have hnx:=hfk.out.nx;have hsn:=(Zgo nk m.bat false).nx;obtain⟨nb1,hnb1⟩:∃z:Int,m.bat.number+1=z:=⟨_,rfl⟩;obtain⟨MX,hMX⟩:∃z:Int,max nk.nx nb1=z:=⟨_,rfl⟩;rw[hnb1,hMX]at hr2;have Hr2:=hr2;obtain⟨n3,hn3⟩:∃n3,Hid ((store nk m.bat false).1=n3):=⟨_,rfl⟩;rw[hn3.out]at N3 Hr2 hsn;obtain⟨hm3,⟨ytx,yba,ydi,yta,yda,yow,ymi,yvo,ytp,you⟩,S3,R3⟩:=id N3;have s2:=S3.nd2;rw[hsn]at s2;simp only[Nat.zero_add]at s2;have hw1:IntKind.i64.wrap nb1=nb1:=by rw[IntKind.wrap_i64];omega
     have Hnb:=Lib.hid hnb1;have Ha:=Lib.hid ha;have e4:m.bat.number=nb1-1:=by omega
     clear hnx hsn hr N3 ha hszT;have hw0:IntKind.i64.wrap (m.bat.number+1)=nb1:=by rw[hnb1];exact hw1
     clear e4 hnb1 hw1;have l3:=K3.fr.lim
     go_wp2_with (refine Sec.store S3 (i:=2) [.int .i64 MX] (show 2+1≤15 by decide) rfl rfl rfl rfl (by kernel_rfl) rfl rfl ?_)
     intro w4 S4 hg4 h4;have f4:=Zaq l3 hg4 hm3;have R4:=(R3.fr f4 (fun k e=>by injection e;omega)).setNx MX;have K4:=K23.store hm3 hg4 h4 (show 2+1≤15 by decide);have hres:NodeAt o3 w4 4 1 gn 0 (recS nk m):=by rw[Hr2.out];exact⟨hm3,_,S4.putNx,R4⟩
     clear S4 R4 S3 R3 hr2 Hr2 K23
     go_wp2_with fail
     go_meet;exact⟨o3,K4,hres⟩
    have kb:(K==1)=false:=by simpa using k1
    by_cases k2:K=2
    ·have kb2:(K==2)=true:=by simpa using k2
     obtain⟨h,hh⟩:∃h,Hid (m.hdr=h):=⟨_,rfl⟩
     have hr:Hid (recS nk m={ nk with own:=some h,voters:=[(i:Int)],mine:=hdR h,table:=if Ze2 nk.table h=0 then Zc4 nk.table h else nk.table }):=by
      show _=_;unfold recS;rw[if_neg (by rw[hK.out];exact k1),if_pos (hK.out.trans k2),hmek.out,hh.out]
     have c6:=hX.cell 6;have c7:=hX.cell 7;have c8:=hX.cell 8;have c9:=hX.cell 9;simp at c6 c7 c8 c9;have rb:=rm2.bats;have rp:=rm2.pars;have eb:Hid (m.hdr.batches.length=h.batches.length):=by show _=_;rw[hh.out]
     have ep:Hid (m.hdr.parents.length=h.parents.length):=by show _=_;rw[hh.out]
     rw[hh.out]at c6 c7 c8 c9 rb rp;clear k1 k2 rm2 hmk'
     go_upto_region 14 with fail
     refine Zo fun W3 hH hsH hbH=>?_
     have K3:=K2.below hbH;have N3:=N2.below l2 hbH;have l3:=Zam l2 hbH;have v3:=Zae l2 hbH;have T3:=T2.mono v3;have rb3:=rb.mono RDig.mono v3;have rp3:=rp.mono RDig.mono v3;have hg0:=l2.none W2.heap.size (Nat.le_refl _);have b4:=Zac W3 (.cells #[.int .i64 (i:Int)] 3);have f4:=Fr.alloc_mark (T:=fun _=>False) l3 (.cells #[.int .i64 (i:Int)] 3) (some (4,4)) (fun k hk=>by injection hk with hk;injection hk with hk _;omega);have m4:=Zc7 o1 W3.heap.size (some (4,4));have L4:=Blk.new W3 3 #[.int .i64 (i:Int)];have hgh4:mark o1 W3.heap.size (some (4,4)) W2.heap.size=none:=by rw[Zbz _ _ (by have:=hH.lt;omega)];exact hg0
     have H4:=hH.alloc (.cells #[.int .i64 (i:Int)] 3);have K4:=K3.step N3.mark f4 (fun _ h=>h.elim) (by decide);have N4:=N3.fr f4 (fun _ h=>h) (fun h=>h);have T4:=T3.mono f4.view;have rb4:=rb3.mono RDig.mono f4.view;have rp4:=rp3.mono RDig.mono f4.view;have l4:=f4.lim;have hk4:=hfk.out.table;clear N2 K2 l2 T2 rb rp hX hx0 K3 N3 l3 v3 T3 rb3 rp3 hH hbH hsH b4 f4 eb ep c6 c7 c8 c9 e2;obtain⟨hmm4,⟨xtx,xba,xdi,xta,xda,xow,xmi,xvo,xtp,xou⟩,S4,R4⟩:=id N4
     go_wp2_with (refine Sec.store S4 (i:=8) [.pointer (some ⟨W2.heap.size,0,none⟩)] (show 8+1≤15 by decide) rfl rfl rfl rfl (by kernel_rfl) rfl rfl ?_)
     intro w5' S5 hg5 h5;have f5:=Zaq l4 hg5 hmm4;have H5:=Za3 H4 f5 hgh4;have hg4n:some W3.heap.size≠some gn:=fun e=>by injection e with e;rw[←e,m4]at hmm4;injection hmm4 with hmm4;injection hmm4 with hmm4 _;omega
     have L5:=L4.grown hg5 hg4n;have rb5:=rb4.mono RDig.mono f5.view;have rp5:=rp4.mono RDig.mono f5.view;have R5:=(R4.fr f5 (fun k e=>by injection e;omega)).setOw (Zy8 hgh4 H5 rb5 rp5);have S5:=S5.putOw (xs:=some h);have K5:=K4.store hmm4 hg5 h5 (show 8+1≤15 by decide);have l5:=f5.lim;have T5:=T4.mono f5.view;clear S4 R4 K4 H4 L4 hg5 h5 f5 rb4 rp4 l4 T4 N4
     go_wp2_with (refine Sec.store S5 (i:=10) [.slice (some ⟨W3.heap.size,0,none⟩) 1 1] (show 10+1≤15 by decide) rfl rfl rfl rfl (by kernel_rfl) rfl rfl ?_)
     intro w6' S6 hg6 h6;have f6:=Zaq l5 hg6 hmm4;have H6:=Za3 H5 f6 hgh4;have L6:=L5.grown hg6 hg4n;have rb6:=rb5.mono RDig.mono f6.view;have rp6:=rp5.mono RDig.mono f6.view;have R6:=(R5.fr f6 (fun k e=>by injection e;omega)).setVo (Znl L6 m4);have S6:=S6.putVo (xs:=[(i:Int)]);have K6:=K5.store hmm4 hg6 h6 (show 10+1≤15 by decide);have l6:=f6.lim;have T6:=T5.mono f6.view;clear S5 R5 K5 H5 L5 hg6 h6 f6 rb5 rp5 l5 T5 L6 m4;generalize mark o1 W3.heap.size (some (4,4))=o4 at *;have N6:NodeAt o4 w6' 4 1 gn 0 {nk with own:=some h,voters:=[(i:Int)] }:=⟨hmm4,_,S6,R6⟩;have c0:=H6.cell 0;have c1:=H6.cell 1;have c2:=H6.cell 2;have c3:=H6.cell 3;simp at c0 c1 c2 c3;clear S6 R6
     go_wp2_with fail
     refine(Zbx h.author h.round _ _ h.batches h.parents w6' (rb6.mono RDig.mono (Zag _ _)) (rp6.mono RDig.mono (Zag _ _)) (T6.mono (Zag _ _))).mono ?_;rintro e w7' ⟨d7,rfl,hb7,rd7⟩;obtain⟨d7A,d7c,rfl,hf7⟩:=id rd7;clear hf7;have N7:=N6.below l6 hb7;have K7:=K6.below hb7;have l7:=Zam l6 hb7;have v7:=Zae l6 hb7;have rb7:=rb6.mono RDig.mono v7;have rp7:=rp6.mono RDig.mono v7;have T7:=T6.mono v7;have H7:=H6.kept hb7;have rd7':=rd7.mono (Zby l6);obtain⟨hmm7,⟨ytx,yba,ydi,yta,yda,yow,ymi,yvo,ytp,you⟩,S7,R7⟩:=id N7;clear c0 c1 c2 c3 N6 K6 l6 rb6 rp6 T6 H6 v7 rd7 hb7
     go_wp2_with (refine Sec.store S7 (i:=9) [.slice d7A (Zi4 h.author h.round h.batches h.parents).length d7c] (show 9+1≤15 by decide) rfl rfl rfl rfl (by kernel_rfl) rfl rfl ?_)
     intro w8 S8 hg8 h8;have f8:=Zaq l7 hg8 hmm7;have R8:=(R7.fr f8 (fun k e=>by injection e;omega)).setMi (rd7'.mono f8.view);have S8:=S8.putMi (xs:=hdR h);have K8:=K7.store hmm7 hg8 h8 (show 9+1≤15 by decide);have N8:NodeAt o4 w8 4 1 gn 0 {nk with own:=some h,voters:=[(i:Int)],mine:=hdR h }:=⟨hmm7,_,S8,R8⟩;have H8:=Za3 H7 f8 hgh4;have rb8:=rb7.mono RDig.mono f8.view;have rp8:=rp7.mono RDig.mono f8.view;have T8:=T7.mono f8.view;have l8:=f8.lim;clear S7 R7 N7 K7 H7 rb7 rp7 T7 l7 rd7' hg8 h8 f8 S8 R8;obtain⟨hmm8,⟨ztx,zba,zdi,zta,zda,zow,zmi,zvo,ztp,zou⟩,S8,R8⟩:=id N8;have rta:RSlots w8.cell? zta nk.table:=R8.ta.reads (bs:=40) RSlot.mono (by(try simp only);omega);obtain⟨taA,tac,hta⟩:=R8.ta.form;have hta:zta=.slice taA nk.table.length tac:=hta;subst hta;have s6:=S8.nd6;simp only[Nat.zero_add]at s6;have c0:=H8.cell 0;have c1:=H8.cell 1;have c2:=H8.cell 2;have c3:=H8.cell 3;simp at c0 c1 c2 c3;obtain⟨QE,hQE⟩:∃q,Hid (Ze2 nk.table h=q):=⟨_,rfl⟩;obtain⟨QL,hQL⟩:∃q,Hid (Zc4 nk.table h=q):=⟨_,rfl⟩;obtain⟨QS,hQS⟩:∃q,Hid (Zcy nk.table h=q):=⟨_,rfl⟩;rw[hQE.out,hQL.out]at hr;clear S8 R8
     go_wp2_with fail
     refine(Zgl _ nk.table h _ _ w8 rta (rb8.mono RDig.mono (Zag _ _)) (rp8.mono RDig.mono (Zag _ _)) (T8.mono (Zag _ _))).mono ?_;rintro e w10 ⟨d10,sd,rfl,hb10,od10,rd10⟩;rw[hQE.out,hQS.out];rw[hQL.out]at od10;rw[hQS.out]at rd10;obtain⟨A10,c10,rfl⟩:=od10.form;obtain⟨sA,sc,rfl,hfs⟩:=id rd10;obtain⟨o5,row5,hfr,hview,ho5⟩:=Zis RSlot.mono l8 hb10 (Nat.le_refl _) od10 (4,3) (fun g k _ e=>by injection e;omega);have f10:=hfr (fun _=>False);have N10:=N8.fr f10 (fun _ h=>h) (fun h=>h);have K10:=K8.step hmm8 f10 (fun _ h=>h.elim) (by decide);have l10:=f10.lim;clear hfs od10 rd10 hfr hview ho5 rta c0 c1 c2 c3 s6 H8 rb8 rp8 T8 N8 K8 l8 f10
     go_upto_region 17 with fail
     refine Zo fun W11 hB hsB hbB=>?_
     have N11:=N10.below l10 hbB;have K11:=K10.below hbB;have l11:=Zam l10 hbB;have row11:=row5.fr RSlot.mono (Fr.of_below (T:=fun _=>False) l10 hbB) (fun h=>h);clear hsB hB N10 K10 l10 row5 hbB
     by_cases hE:QE=0
     rotate_left
     ·have hEb:(QE==0)=false:=by simpa using hE
      have hres:NodeAt o5 W11 4 1 gn 0 (recS nk m):=by rw[hr.out,if_neg hE];exact N11
      clear N11 hr hE row11
      go_wp2_with fail
      go_meet;exact⟨o5,K11,hres⟩
     have hEb:(QE==0)=true:=by simpa using hE
     have hr2:Hid (recS nk m={ nk with own:=some h,voters:=[(i:Int)],mine:=hdR h,table:=QL }):=by show _=_;rw[hr.out,if_pos hE]
     obtain⟨hmm11,⟨ytx,yba,ydi,yta,yda,yow,ymi,yvo,ytp,you⟩,S11,R11⟩:=id N11;clear N11 hr hE
     go_wp2_with (refine Sec.store S11 (i:=6) [.slice A10 QL.length c10] (show 6+1≤15 by decide) rfl rfl rfl rfl (by kernel_rfl) rfl rfl ?_)
     intro w12 S12 hg12 h12;have f12:=Zaq l11 hg12 hmm11;have R12:=(R11.fr f12 (fun k e=>by injection e;omega)).setTa (row11.fr RSlot.mono f12 (by simp));have K12:=K11.store hmm11 hg12 h12 (show 6+1≤15 by decide);have hres:NodeAt o5 w12 4 1 gn 0 (recS nk m):=by rw[hr2.out];exact⟨hmm11,_,S12.putTa,R12⟩
     clear S12 R12 S11 R11 K11 hr2
     go_wp2_with fail
     go_meet;exact⟨o5,K12,hres⟩
    have kb2:(K==2)=false:=by simpa using k2
    by_cases k3:K=3
    ·have kb3:(K==3)=true:=by simpa using k3
     have hr:Hid (recS nk m={ nk with table:=nk.table++[m.slt] }):=by
      show _=_;unfold recS;rw[if_neg (by rw[hK.out];exact k1),if_neg (by rw[hK.out];exact k2),if_pos (hK.out.trans k3)]
     have c10:=hX.cell 10;have c11:=hX.cell 11;have c12:=hX.cell 12;simp at c10 c11 c12;obtain⟨hm2,⟨xtx,xba,xdi,xta,xda,xow,xmi,xvo,xtp,xou⟩,S2,R2⟩:=id N2;have s6:=S2.nd6;obtain⟨taA,tac,hta⟩:=R2.ta.form;have hta:xta=.slice taA nk.table.length tac:=hta;subst hta;simp only[Nat.zero_add]at s6;have rd:=rm2.dig;clear k1 k2 k3 hmk';have htab:=hfk.out.table
     go_wp2_with (at_builtin;go_loud (refine Zcu (n:=140737488355328) RSlot.mono m.slt [.int .i64 m.slt.author,.int .i64 m.slt.round,.slice dA' m.slt.digest.length dc'] Zj4 _ _ rfl rfl rfl R2.ta l2 (by simp) rfl rfl rfl rfl ⟨_,rfl,rd⟩ (Nat.le_refl _) (show(nk.table.length+1)*40≤140737488355328 by omega) (show nk.table.length+1≤140737488355328 by omega) ?_))
     intro v' w8 o8 r8 f8;have S8:=S2.fr f8 hm2 (by simp);have m8:=Zb5 S2.lt f8 hm2 (by simp);have R8:=R2.ta' f8 r8;have K8:=K2.step hm2 f8 (fun t ht=>.inl (by rw[ht])) (by omega);obtain⟨A8,c8,hv8⟩:=r8.form;subst hv8
     go_wp2_with (refine Sec.store S8 (i:=6) [.slice A8 (nk.table++[m.slt]).length c8] (show 6+1≤15 by decide) rfl rfl rfl rfl (by kernel_rfl) rfl rfl ?_)
     intro w9' S9 hg9 h9;have R9:=R8.fr (Zaq K8.fr.lim hg9 m8) (fun k e=>by injection e;omega);have K9:=K8.store m8 hg9 h9 (show 6+1≤15 by decide)
     (try simp only[List.length_append,List.length_singleton]at R9 S9)
     have hres:NodeAt o8 w9' 4 1 gn 0 (recS nk m):=by rw[hr.out];exact⟨m8,_,S9.putTa,R9⟩
     clear S9 R9 S8 R8 S2 R2 hr
     go_wp2_with fail
     go_meet;exact⟨o8,K9,hres⟩
    have kb3:(K==3)=false:=by simpa using k3
    by_cases k4:K=4
    ·have kb4:(K==4)=true:=by simpa using k4
     have hr:Hid (recS nk m=(insert nk m.crt false).1):=by
      show _=_;unfold recS;rw[if_neg (by rw[hK.out];exact k1),if_neg (by rw[hK.out];exact k2),if_neg (by rw[hK.out];exact k3),if_pos (hK.out.trans k4)]
     have c13:=hX.cell 13;have c14:=hX.cell 14;have c15:=hX.cell 15;have c16:=hX.cell 16;have c17:=hX.cell 17;simp at c13 c14 c15 c16 c17;clear k1 k2 k3 k4 hmk'
     go_wp2_with fail
     refine(Zi2 4 1 gn 0 nk m.crt false _ _ _ o1 W2 l2 (by decide) N2 T2 rm2.cbats rm2.cpars rm2.vots).mono ?_;rintro e w3 ⟨rfl,o3,K3,N3⟩;rw[←hr.out]at N3
     go_wp2_with fail
     go_meet;exact⟨o3,K2.trans K3,N3⟩
    have kb4:(K==4)=false:=by simpa using k4
    have hr:Hid (recS nk m=nk):=by
     show _=_;unfold recS;rw[if_neg (by rw[hK.out];exact k1),if_neg (by rw[hK.out];exact k2),if_neg (by rw[hK.out];exact k3),if_neg (by rw[hK.out];exact k4)]
    have hres:NodeAt o1 W2 4 1 gn 0 (recS nk m):=by rw[hr.out];exact N2
    clear k1 k2 k3 k4 hmk' N2 hr
    go_wp2_with fail
    go_meet;exact⟨o1,K2,hres⟩
   case rest =>
    obtain⟨o3,K3,N3⟩:=hcut;rw[←hst.out,←hnk1.out]at N3;clear K1 N1 l1 T1 rmr rmm hst hfk hmk' hcs;go_wp2;go_roundw
    case rel=>exact⟨k+1,o3,by omega,by go_num,K3,N3⟩
    case measure=>simp[intOf]<;>omega
  ·have hkl:k=ML.length:=by omega
   have hltI:¬(k:Int)<ML.length:=by omega
   rw[hkl,List.take_length,←HQ.out]at N1
   have F1:FtAt o1 wr gf f:=F9.fr K1.fr (fun j m hj h4 e=>by
    rcases e with e|e
    ·injection e with e _;omega
    ·exact h4 e) (by simp)
   have A1:=All.trans A9 K1.fr.all;clear hkl rmr T1;obtain⟨hm1,⟨xtx,xba,xdi,xta,xda,xow,xmi,xvo,xtp,xou⟩,S1,R1⟩:=id N1;obtain⟨_,v0,S0,R0⟩:=F1.node i hi;obtain⟨V,hV⟩:∃V:Vals,V=⟨xtx,xba,xdi,xta,xda,xow,xmi,xvo,xtp,xou⟩:=⟨_,rfl⟩;rw[←hV]at S1 R1;have hone:=R1.one;have l1:=F1.lim;have Hone:=Lib.hid hone;clear hone N1 HQ hV
   go_upto_region 24 with fail
   refine Zt (fun w'=>Below wr.heap.size wr w') (fun w'=>Sec w' gn 0 (ndC QR V)) [6] (.q 0 (.q 1 (.q 2 (.q 3 (.q 4 (.q 5 (.l 6 .nil))))))) ?_ ?_
   ·exact⟨Zad _,S1.same rfl⟩
   intro W2 hS0 hS
   repeat(refine Zq ?_;simp only[sx])
   refine pl_q (by assumption) rfl rfl ?_;apply Exists.intro;refine⟨fun w' hS=>Zmn 116 _ rfl _ _ rfl _ _ (Sec.range hS) Tryz.underlying116 rfl (by kernel_rfl),?_⟩;simp only[List.getElem_toArray,List.getElem_cons_zero,List.getElem_cons_succ,Act.put,List.setIfInBounds_toArray,List.set_cons_zero,List.set_cons_succ]
   repeat(refine Zq ?_;simp only[sx])
   have F2:=F1.below hS0;have l2:=F2.lim;obtain⟨_,v2,S2,_⟩:=F2.node i hi;have R2:=R1.fr (Fr.of_below (T:=fun _=>False) l1 hS0) (fun _ h=>h);have A2:=All.trans A1 (Fr.of_below (T:=All) l1 hS0);refine Zc fun K hK=>?_
   try simp only[sy]
   refine Sec.wp_store S2 (i:=0) (ndC QR V) (show 0+15≤15 by decide) rfl rfl rfl (by kernel_rfl) rfl Hone.out ?_;intro w3 S3 hg3 h3;have S3:Sec w3 gf (1+i*15) (ndC QR V):=S3;have F3:=F2.replace hi S3 hg3 h3 R2;have A3:=All.trans A2 (All.trans (Zaq (tg:=(8,0)) l2 hg3 F2.mark).all (Fr.remap (Fr.grown (T:=fun t=>t=(8,0)) l2 hg3 F2.mark rfl).lim (Zkw hi)));clear S3 S2 R2 F2;refine hK.out _ _ ?_;clear hK K
   try simp only[sx]
   repeat(refine Zq ?_;simp only[sx])
   refine Zah ?_;go_wp2;go_end0;exact⟨rfl,_,A3,F3⟩
theorem Zgw{css:List (List Value)}(h:∀i (hi:i<css.length),css[i].length=sz)(hi:i≤css.length):css.flatten.take (i*sz)=(css.take i).flatten∧css.flatten.drop (i*sz)=(css.drop i).flatten:=by
 have e:css.flatten=(css.take i).flatten++(css.drop i).flatten:=by rw[←List.flatten_append,List.take_append_drop]
 have hl:(css.take i).flatten.length=i*sz:=by
  rw[Zhm (sz:=sz) (fun j hj=>by rw[List.getElem_take];exact h j (by simp at hj;omega))];rw[List.length_take,Nat.min_eq_left hi]
 rw[e];constructor
 ·rw[←hl,List.take_left]
 ·rw[←hl,List.drop_left]
theorem Ztb{css:List (List Value)}(h:∀i (hi:i<css.length),css[i].length=sz)(hi:i<css.length):(css.eraseIdx i).flatten=css.flatten.take (i*sz)++css.flatten.drop ((i+1)*sz):=by
 rw[(Zgw h (Nat.le_of_lt hi)).1,(Zgw h (show i+1≤css.length from hi)).2,List.eraseIdx_eq_take_drop_succ,List.flatten_append]
theorem Zg5{bytes n m c2:Nat}{ad:Addr}{news:List Value}(s y:Operand)(hE:Elem P t e sz bytes)(ho:o.op=.call {callee:=.builtin .append,args:=#[s,y],argTypes:=#[t,t] })(hs:a.eval s=.slice (some ⟨g,0,none⟩) n c)(hx:a.eval y=.slice (some ad) m c2)(hg:Blk w g e cur)(hl:news.length=m*sz)(hnews:∀j u,news[j]?=some u→w.cell? (ad.add j)=some u)(h1:∀u∈news,u.oneCell'=true)(hroom:n+m≤c)(hfit:n*sz+news.length≤cur.size)(h:∀w',Blk w' g e (cur.toList.take (n*sz)++news++cur.toList.drop (n*sz+news.length)).toArray→w.grownBy w' (some g)→K (a.put o.dst (.slice (some ⟨g,0,none⟩) (n+m) c)) w'):o.wp P a w K Q:=by
 obtain⟨ht,hsz,i,z,hi,hz0,hz1,hz2,hzs⟩:=hE;subst hz1;have hr:=run_append_room (P:=P) w t o.type e i ht hi g n c cur hg ad m c2 news hl hnews h1 hroom hfit;obtain⟨new,hnew⟩:∃x,x=(cur.toList.take (n*i.size)++news++cur.toList.drop (n*i.size+news.length)).toArray:=⟨_,rfl⟩;rw[←hnew]at hr h;obtain⟨b1,b2⟩:=Zlq hg new;unfold Oper.wp execOp;simp[ho,resolve,invoke,builtin,hs,hx,hr,Result.andThen,Oper.upon];exact h _ b1 b2
theorem Zyz(w:World):(zeroValue 66).run Tryz.prog w=.ok (.agg #[.int .i64 0,.int .i64 0,.int .i64 0,.int .i64 0,.int .i64 0,.slice none 0 0,.int .i64 0,.int .i64 0,.slice none 0 0,.slice none 0 0,.int .i64 0,.int .i64 0,.slice none 0 0,.int .i64 0,.int .i64 0,.slice none 0 0,.slice none 0 0,.slice none 0 0,.int .i64 0]) w:=by kernel_rfl
theorem Zqv(tg:Nat×Nat)(v:Value)(xs:List Msg)(i:Nat)(o:Own)(w:World)(hl:Lim o w)(hrow:Row o tg 19 RMsgZ 66 w v xs)(hi:i<xs.length)(h4:xs.length≤400) :
 Calls Tryz.prog 108 #[v,.int .i64 (i:Int),.int .i64 ((i+1:Nat):Int)] w fun e w'=>∃v',e=.returned v'∧Fr (fun t=>t=tg) o w o w'∧Row o tg 19 RMsgZ 66 w' v' (xs.eraseIdx i):=by
 obtain⟨css,h1,h2,h3⟩:=hrow.own
 rcases id h1.2 with ⟨rfl,h0⟩|⟨g,c,cur,rfl,k2,k3,k4,k5,k6,k7⟩
 ·omega
 have hmk:=hrow.mark g rfl
 have hlen:∀j (hj:j<css.length),css[j].length=19:=fun j hj=>by
  obtain⟨cs,q1,q2,_⟩:=h3 j (by omega);rw[List.getElem?_eq_getElem hj]at q1;injection q1 with q1;rw[q1];exact q2
 obtain⟨n,hn⟩:∃n,Hid (xs.length=n):=⟨_,rfl⟩;rw[hn.out]at hi h4 k4 k7⊢;obtain⟨j,hj⟩:∃j,j=i+1:=⟨_,rfl⟩;have hjn:j≤n:=by omega
 have hc:c≤140737488355328∨True:=.inr trivial;have hB:Blk w g 66 cur:=k3;have hiI:(i:Int)<n:=by omega
 have hjI:(j:Int)≤n:=by omega
 have hijI:(i:Int)≤j:=by omega
 have hncI:(n:Int)≤c:=by omega
 have hicI:(i:Int)≤c:=by omega
 have hic:i≤c:=by omega
 have hicl:i<c:=by omega
 have hjcc:j≤c:=by omega
 have hjcJ:(j:Int)≤c:=by omega
 have hijb:((i:Int)==(j:Int))=false:=by simp;omega
 rw[←hj];have Hj:=Lib.hid hj;clear hj hc
 go_enter Tryz.func108,Tryz.ntmps108
 go_upto_region 5 with fail
 obtain⟨p,hp⟩:∃p,p+1=n:=⟨n-1,by omega⟩;obtain⟨news,hnews⟩:∃x,Hid ((css.drop j).flatten=x):=⟨_,rfl⟩;have hcl:css.length=n:=by rw[←hn.out];exact h2
 have HLN:Hid (news.length=(n-j)*19):=by
  show _=_;rw[←hnews.out,Zhm (sz:=19) (fun q hq=>by rw[List.getElem_drop];exact hlen _ _),List.length_drop,hcl]
 have hfl:css.flatten.length=n*19:=by rw[h1.1,hn.out]
 have HN1:Hid (∀u∈news,u.oneCell'=true):=by
  intro u hu;rw[←hnews.out]at hu;obtain⟨cs,hcs,huc⟩:=List.mem_flatten.1 hu;obtain⟨q,hq,rfl⟩:=List.getElem_of_mem (List.mem_of_mem_drop hcs);obtain⟨cs',r1,r2,r3⟩:=h3 q (by omega);rw[List.getElem?_eq_getElem hq]at r1;injection r1 with r1;rw[r1]at huc;obtain⟨⟨vt,vb,vp,vd,cb,cp,cv,rfl,rm⟩,_⟩:=r3;obtain⟨⟨tA,tc,rfl⟩,⟨bA,bc,rfl⟩,⟨pA,pc,rfl⟩,⟨dA,dc,rfl⟩,⟨cA,cc,rfl⟩,⟨qA,qc,rfl⟩,⟨eA,ec,rfl⟩⟩:=rm.forms;exact List.all_eq_true.1 (show((msgC xs[q] (.slice tA xs[q].bat.txs.length tc) (.slice bA xs[q].hdr.batches.length bc) (.slice pA xs[q].hdr.parents.length pc) (.slice dA xs[q].slt.digest.length dc) (.slice cA xs[q].crt.hdr.batches.length cc) (.slice qA xs[q].crt.hdr.parents.length qc) (.slice eA xs[q].crt.voters.length ec)).toList.all fun u=>u.oneCell')=true from rfl) u huc
 have HNW:Hid (∀W,Below w.heap.size w W→∀q u,news[q]?=some u→W.cell? ((⟨g,j*19,none⟩:Addr).add q)=some u):=by
  intro W hW q u hu;rw[Zbs,(hB.kept hW).cell];have hq:q<(n-j)*19:=by rw[←HLN.out];exact(List.getElem?_eq_some_iff.1 hu).1
  have hjq:j*19+q<n*19:=by
   have:j*19+(n-j)*19=n*19:=by rw[←Nat.add_mul];congr 1;omega
   omega
  rw[Zrv k7 hjq];rw[←hnews.out,←(Zgw hlen (by omega)).2,List.getElem?_drop]at hu;exact hu
 have HER:Hid ((css.eraseIdx i).flatten=css.flatten.take (i*19)++news):=by
  show _=_;rw[Ztb hlen (by omega),←hnews.out,←(Zgw hlen (show j≤css.length by omega)).2,Hj.out]
 have hjn2:i+(n-j)=p:=by have:=Hj.out;omega
 have hszc:cur.size=c*19:=k6
 have HSZ:Hid ((cur.toList.take (i*19)++news++cur.toList.drop (i*19+news.length)).toArray.size=c*19):=by
  show _=_;simp;rw[HLN.out,hszc];have:=Hj.out;omega
 have HTK:Hid ((cur.toList.take (i*19)++news++cur.toList.drop (i*19+news.length)).toArray.toList.take (p*19)=css.flatten.take (i*19)++news):=by
  show _=_;have e1:cur.toList.take (i*19)=css.flatten.take (i*19):=by rw[←k7,List.take_take,Nat.min_eq_left (by omega)]
  have e2:(css.flatten.take (i*19)++news).length=p*19:=by rw[List.length_append,List.length_take,hfl,HLN.out];omega
  show List.take (p*19) (cur.toList.take (i*19)++news++cur.toList.drop (i*19+news.length))=_;rw[e1,←e2];exact List.take_left
 have hpc:p<c:=by omega
 have hpcI:(p:Int)<c:=by omega
 have hpnI:(p:Int)≤n:=by omega
 have hpcJ:(p:Int)≤c:=by omega
 have hpn:p≤n:=by omega
 have hpc':p≤c:=by omega
 have hpne:¬(c=p):=by omega
 have hpne':¬(p=c):=by omega
 go_cut [0] (fun v w'=>∃cur1,v=.slice (some ⟨g,0,none⟩) p c∧w.grownBy w' (some g)∧Blk w' g 66 cur1∧cur1.size=c*19∧cur1.toList.take (p*19)=css.flatten.take (i*19)++news)
 case first =>
  by_cases hjc:j<c
  ·have hjcI:(j:Int)<c:=by omega
   have hcj:¬c=j:=by omega
   have HLM:news.length=(n-j)*19:=HLN.out;refine Zt (fun w'=>Below w.heap.size w w') (fun w'=>w.grownBy w' (some g)) [7] (.q 0 (.q 1 (.q 2 (.q 3 (.q 4 (.q 5 (.l 6 (.qc 7 .nil)))))))) ?_ ?_
   ·exact⟨Zad _,Zcd _ _⟩
   intro W3 hS0 hS
   repeat(refine Zq ?_;simp only[sx])
   refine Zd fun K hK=>?_
   try simp only[sy]
   refine Zg5 (m:=n-j) (ad:=⟨g,j*19,none⟩) (news:=news) _ _ Zi6 rfl rfl rfl (hB.kept hS0) HLM (HNW.out W3 hS0) HN1.out (by omega) (by rw[HLN.out,hszc];omega) ?_;intro w4 hB4 hg4;have hg4':=Zaf (Zak (some g) hS0) hg4;rw[show i+(n-j)=p from hjn2];refine hK.out _ _ (hg4') fun hS=>?_
   clear hK K
   try simp only[sx]
   repeat(refine Zq ?_;simp only[sx])
   refine Zah ?_
   go_wp2_with fail
   go_meet;exact⟨_,rfl,hg4',hB4,HSZ.out,HTK.out⟩
  ·have e:c=j:=by omega
   have e2:n=j:=by omega
   have hnn:¬n<n:=by omega
   have hnnI:¬(n:Int)<n:=by omega
   have HLM:news.length=0*19:=by rw[HLN.out];omega
   have hip:i+0=p:=by have:=Hj.out;omega
   subst e;subst e2;refine Zt (fun w'=>Below w.heap.size w w') (fun w'=>w.grownBy w' (some g)) [7] (.q 0 (.q 1 (.q 2 (.q 3 (.q 4 (.q 5 (.l 6 (.qc 7 .nil)))))))) ?_ ?_
   ·exact⟨Zad _,Zcd _ _⟩
   intro W3 hS0 hS
   repeat(refine Zq ?_;simp only[sx])
   refine Zd fun K hK=>?_
   try simp only[sy]
   refine Zg5 (m:=0) (ad:=⟨g,0,none⟩) (news:=news) _ _ Zi6 rfl rfl rfl (hB.kept hS0) HLM (fun q u hu=>by have:=(List.getElem?_eq_some_iff.1 hu).1;omega) HN1.out (by omega) (by rw[HLN.out,hszc];omega) ?_;intro w4 hB4 hg4;have hg4':=Zaf (Zak (some g) hS0) hg4;rw[show i+0=p from hip];refine hK.out _ _ (hg4') fun hS=>?_
   clear hK K
   try simp only[sx]
   repeat(refine Zq ?_;simp only[sx])
   refine Zah ?_
   go_wp2_with fail
   go_meet;exact⟨_,rfl,hg4',hB4,HSZ.out,HTK.out⟩
 case rest =>
  obtain⟨cur1,rfl,hg1,hB1,hs1,ht1⟩:=hcut;obtain⟨zs,hzs⟩:∃zs,Hid ((Builtin.zeroCells (Value.agg #[.int .i64 0,.int .i64 0,.int .i64 0,.int .i64 0,.int .i64 0,.slice none 0 0,.int .i64 0,.int .i64 0,.slice none 0 0,.slice none 0 0,.int .i64 0,.int .i64 0,.slice none 0 0,.int .i64 0,.int .i64 0,.slice none 0 0,.slice none 0 0,.slice none 0 0,.int .i64 0]).cells (n-p)).toList=zs):=⟨_,rfl⟩
  have hzl:Hid (zs.length=(n-p)*19):=by
   show _=_;rw[←hzs.out];unfold Builtin.zeroCells;simp[Value.cells]
  have hcl:∀ty,(Builtin.clear_ #[114] ty #[.slice (some ⟨g,p*19,none⟩) (n-p) (c-p)]).run Tryz.prog wc=.ok (.tuple #[]) (wc.setRow g (Zfc cur1 (p*19) zs)):=fun ty=>by
   have:=Zh3 (P:=Tryz.prog) (ty:=ty) (c:=c-p) (sz:=19) (off:=p*19) (n:=n-p) Tryz.underlying114 Zyz rfl rfl (by decide) hB1 (by omega) (by rw[hs1];omega);rw[this,hzs.out]
  obtain⟨hB9,hg9⟩:=Zlq hB1 (Zfc cur1 (p*19) zs);have hs9:=Zli (cur:=cur1) (off:=p*19) (zs:=zs) (by rw[hzl.out,hs1];omega);have ht9:=Zlh (cur:=cur1) (off:=p*19) (zs:=zs) (by rw[hzl.out,hs1];omega);have HS:=Lib.hid (And.intro hs9 ht9);obtain⟨w9,hw9⟩:∃w9,wc.setRow g (Zfc cur1 (p*19) zs)=w9:=⟨_,rfl⟩;rw[hw9]at hB9 hg9 hcl;generalize Zfc cur1 (p*19) zs=new at *;have hg0:=Zaf hg1 hg9;have hfr:Fr (fun t=>t=tg) o w o w9:=.grown hl hg0 hmk rfl;have hle:(xs.eraseIdx i).length=p:=by rw[List.length_eraseIdx_of_lt (by rw[hn.out];exact hi),hn.out];omega
  have hres:Row o tg 19 RMsgZ 66 w9 (.slice (some ⟨g,0,none⟩) p c) (xs.eraseIdx i):=by
   refine⟨⟨css.eraseIdx i,⟨?_,.inr ⟨g,c,new,by rw[hle],Nat.zero_le _,hB9,by rw[hle];exact hpc',k5,?_,?_⟩⟩,?_,fun q hq=>?_⟩,fun g' hg'=>?_⟩
   ·rw[Zhm (sz:=19) (fun q hq=>?_)]
    ·rw[hle,List.length_eraseIdx_of_lt (by omega)];congr 1;omega
    ·obtain⟨q',hq',e⟩:=List.getElem_of_mem (List.mem_of_mem_eraseIdx (List.getElem_mem hq));rw[←e];exact hlen q' hq'
   ·rw[HS.out.1,hs1]
   ·rw[hle,HS.out.2,ht1,←HER.out]
   ·rw[List.length_eraseIdx_of_lt (by omega),List.length_eraseIdx_of_lt (by rw[hn.out];exact hi),h2]
   ·have hq2:=hq;rw[List.length_eraseIdx_of_lt (by rw[hn.out];exact hi)]at hq2
    by_cases hqi:q<i
    ·obtain⟨cs,r1,r2,r3⟩:=h3 q (by omega);refine⟨cs,by rw[List.getElem?_eraseIdx_of_lt hqi];exact r1,r2,?_⟩;rw[List.getElem_eraseIdx_of_lt _ hqi];exact RMsgZ.mono _ _ _ _ r3 hfr.view
    ·obtain⟨cs,r1,r2,r3⟩:=h3 (q+1) (by omega);refine⟨cs,by rw[List.getElem?_eraseIdx_of_ge (by omega)];exact r1,r2,?_⟩;rw[List.getElem_eraseIdx_of_ge _ (by omega)];exact RMsgZ.mono _ _ _ _ r3 hfr.view
   ·injection hg' with hg';rw[←hg'];exact hmk
  clear hB9 hg9 hw9 hs9 ht9 hB1 hg1
  go_wp2_with fail
  go_ret;exact⟨_,rfl,hfr,hres⟩
end Fl
end Go.Proofs.YtinibgklgehdpaaGreatDoor
