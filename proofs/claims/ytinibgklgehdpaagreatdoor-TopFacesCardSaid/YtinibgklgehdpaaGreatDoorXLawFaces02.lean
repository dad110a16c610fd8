/- The law TopFaces: not even a bad node has certificates of two digests in a round: it answers true at every argument, and changes none of them: no condition; its card: the tables tied to the program's text. -/
import Derived.Shelf.SlSortCmp.WholeK
import Derived.Shelf.SlSortCmp.NoneTotal
import Derived.Shelf.Abstract
import Derived.Deep.DeepCutAuto
import Derived.Deep.CutBlock
import Derived.Laws.BytesArg
import Derived.Lib.EndianBits
import Derived.Laws.BitsLemmas
import Derived.WalkSpells
import Derived.Shelf.SlGeneric
import Derived.Ground.SlsfProg
import Derived.Test.YtinibgklgehdpaaGreatDoorProg
import Derived.Test.YtinibgklgehdpaaGreatDoorXLawFaces01
namespace Go.Proofs.YtinibgklgehdpaaGreatDoor
open Go.ChangeShapes Go.WideShapes Go.ChangeAt Go.RowKit Qa Qb Qc
set_option linter.all false
set_option maxHeartbeats 20000000
set_option maxRecDepth 100000
variable{w w' wr:World}{v:Value}{cs:Array Value}{h:View}{i g b:Nat}
namespace Fl
def Mid(b z:Nat)(w:World):View:=fun a=>if b≤a.block∧a.block<z then w.cell? a else none
theorem mid_le(b z:Nat)(w:World):VLe (Mid b z w) w.cell?:=fun a v e=>by
 unfold Mid at e
 split at e
 ·exact e
 ·cases e
theorem mid_chg{z:Nat}(hc:Chg [g] w w')(hx:g<b∨z≤g):VLe (Mid b z w) (Mid b z w'):=fun a v e=>by
 unfold Mid at e⊢
 split at e
 ·rename_i h
  rw[if_pos h]
  have hlt:=World.block_lt_of_cell? w a e
  exact(World.cell?_of_block (hc.block a.block hlt (by simp;omega))).trans e
 ·cases e
theorem mid_start:VLe (View.from w.cell? b) (Mid b w.heap.size w):=fun a v e=>by
 unfold View.from at e
 split at e
 ·cases e
 ·unfold Mid
  rw[if_pos ⟨by omega,World.block_lt_of_cell? w a e⟩]
  exact e
theorem mid_wide{z b' z':Nat}(hb:b'≤b)(hz:z≤z'):VLe (Mid b z w) (Mid b' z' w):=fun a v e=>by
 unfold Mid at e⊢
 split at e
 ·rename_i h
  rw[if_pos ⟨by omega,by omega⟩]
  exact e
 ·cases e
theorem mid_cell{z:Nat}(h:w.cell? ⟨g,i,none⟩=some v)(hb:b≤g)(hz:g<z):Mid b z w ⟨g,i,none⟩=some v:=by
 unfold Mid;rw[if_pos ⟨hb,hz⟩];exact h
structure RowA (g0:Nat) (Wz wr:World) (b:Nat) (v:Value) (xs:List At):Prop where
 own:OwnA wr b v xs
 blk:∀g,v.ownBlock=some g→g=g0∨Wz.heap.size≤g
 chg:Chg [g0] Wz wr
 acts:Acts xs
theorem RowA.kept{g0:Nat}{Wz:World}{xs:List At}(h:RowA g0 Wz wr b v xs)(hb:Below wr.heap.size wr w'):RowA g0 Wz w' b v xs :=
 ⟨h.own.kept hb,h.blk,h.chg.trans (Chg.of_below hb (Nat.le_refl _)),h.acts⟩
theorem RowA.alloc{g0:Nat}{Wz:World}{xs:List At}(h:RowA g0 Wz wr b v xs)(o:Obj):RowA g0 Wz (wr.alloc o) b v xs:=h.kept (Zac _ _)
theorem RowA.grow{g0:Nat}{Wz:World}{v':Value}{xs ys:List At}(h:RowA g0 Wz wr b v xs)(ho:OwnA w' b v' (xs++ys))(hg:wr.grownBy w' v.ownBlock)(hb:∀q,v'.ownBlock=some q→v.ownBlock=some q∨wr.heap.size≤q)(ha:Acts ys):RowA g0 Wz w' b v' (xs++ys):=by
 have hz:=h.chg.size;refine⟨ho,fun g e=>(hb g e).elim (h.blk g) (fun q=>.inr (by omega)),?_,h.acts.append ha⟩
 rcases hv:v.ownBlock with _|q
 ·rw[hv]at hg;exact h.chg.row hg (by simp)
 ·rw[hv]at hg
  rcases h.blk q hv with rfl|hq
  ·exact h.chg.trans (Chg.of_grown hg (by simp))
  ·exact h.chg.row hg (fun k e=>by injection e with e;omega)
theorem RowA.there{g0:Nat}{Wz:World}{xs:List At}(h:RowA g0 Wz wr b v xs)(h0:0<xs.length):∃g c,v=.slice (some ⟨g,0,none⟩) xs.length c∧b≤g∧g<wr.heap.size∧(g=g0∨Wz.heap.size≤g):=by
 rcases h.own.own.2 with ⟨_,hn⟩|⟨g,cap,cur,e1,e2,e3,_⟩
 ·omega
 ·subst e1;exact⟨g,cap,rfl,e2,(Array.getElem?_eq_some_iff.1 e3).1,h.blk g rfl⟩
structure HdC (h:View) (cs:Array Value):Prop where
 out:∃(a r:Int) (bA:Option Addr) (bs:List (List UInt8)) (bc:Nat) (pA:Option Addr) (ps:List (List UInt8)) (pc:Nat),cs=#[.int .i64 a,.int .i64 r,.slice bA bs.length bc,.slice pA ps.length pc]∧RDigs h (.slice bA bs.length bc) bs∧RDigs h (.slice pA ps.length pc) ps
theorem HdC.mono{h':View}(r:HdC h cs)(hle:VLe h h'):HdC h' cs:=by
 obtain⟨a,b,c,d,e,f,g,i,e1,r1,r2⟩:=r.out;exact⟨⟨a,b,c,d,e,f,g,i,e1,r1.mono RDig.mono hle,r2.mono RDig.mono hle⟩⟩
def twoB:ByteArray:=⟨#[116,119,111]⟩
theorem topFaces_any(v:Value)(l:List At)(n m:Int)(w:World)(rl:RAts w.cell? v l)(hg:∀g∈l,GOk g)(hn:I64 n)(hm:I64 m)(hT:Tabs w.cell?) :
 Calls Tryz.prog 4 #[v,.int .i64 n,.int .i64 m] w fun e w'=>e=.returned (.bool true)∧Below w.heap.size w w':=by
 have h1:=Zd2 n 4;have h2:=Zd2 m 16;have hp:=Zb2 n (many:=4) (by decide);have hp2:=Zb2 m (many:=16) (by decide);obtain⟨i,hi⟩:∃P,Hid (Zcw n 4=P):=⟨_,rfl⟩;obtain⟨M,hM⟩:∃P,Hid (Zcw m 16=P):=⟨_,rfl⟩;rw[hi.out]at h1 hp;rw[hM.out]at h2 hp2;have H1:=Lib.hid (fun w=>h1 w hn (by decide));have H2:=Lib.hid (fun w=>h2 w hm (by decide));have HG:=Lib.hid hg;obtain⟨k,rfl⟩:∃k:Nat,i=k:=⟨i.toNat,by omega⟩;have hkl:k<4:=by omega
 have hr:inB (k:Int) (-1) 3=true:=Zbi.2 (by omega);have Hr:=Lib.hid hr;have HM:=Lib.hid hp2;obtain⟨A,lc,rfl,hf⟩:=id rl;clear h1 h2 hi hM hg hn hm hp hp2 hf hr
 go_enter Tryz.func4,Tryz.ntmps4
 go_wp2_with fail
 refine(H1.out _).mono ?_;rintro e wz ⟨rfl,rfl⟩
 go_wp2_with fail
 refine(Zyn _ l 30 _ rl HG.out (by decide)).mono ?_;rintro e w1 ⟨v1,a,rfl,hb1,o1,ha,hal⟩;have Ha:=Lib.hid ha;obtain⟨A1,c1,rfl⟩:=o1.form;have r1:=o1.reads (by omega);have hz1:=hb1.size;clear o1 ha rl
 go_wp2_with fail
 refine(calm_any 5 _ (by decide)).mono ?_;rintro e w1' ⟨v1',rfl,hb1',o1'⟩;obtain⟨q1',hq1'⟩:∃q,Hid (calmA 5=q):=⟨_,rfl⟩;have hq3:(calmA 5).length=49:=by decide
 have HQ:=Lib.hid (calmA_acts 5);rw[hq1'.out]at o1' hq3 HQ;have hq3':q1'.length≤49∧0<q1'.length:=by omega
 clear hq3;obtain⟨A1',c1',rfl⟩:=o1'.form;have rq:=o1'.reads (by omega);have r1:=r1.mono RAt.mono (Zaa hb1');have hbl1:=hb1.trans (hb1'.mono hz1);have hz1:=hbl1.size;clear o1' hq1'
 go_wp2_with fail
 refine(Zq3 _ _ a q1' _ r1 rq (by omega)).mono ?_;rintro e w2 ⟨v2,rfl,hb2,o2⟩;have hbl2:=hbl1.trans (hb2.mono hz1);have hz2:=hbl2.size;have hl2:(a++q1').length≤79∧0<(a++q1').length:=by simp;omega
 have Ha2:Hid (Acts (a++q1')):=Lib.hid (Ha.out.append HQ.out);have Hlaw:=Lib.hid (views_sound Hr.out Ha2.out);obtain⟨ls,has⟩:∃ls,Hid (a++q1'=ls):=⟨_,rfl⟩;rw[has.out]at o2 hl2 Ha2 Hlaw;have o2:=o2.base hz1;have r2:=o2.reads (by omega)
 obtain⟨g0,cap0,rfl,hg0,hg0l⟩:∃g0 cap0,v2=.slice (some ⟨g0,0,none⟩) ls.length cap0∧w.heap.size≤g0∧g0<w2.heap.size:=by
  rcases o2.own.2 with ⟨_,hn⟩|⟨g0,cap0,cur,e1,e2,e3,_⟩
  ·omega
  ·exact⟨g0,cap0,e1,e2,(Array.getElem?_eq_some_iff.1 e3).1⟩
 clear r1 rq has
 go_wp2_with fail
 refine(Zrj (k:Int) _ ls _ Hr.out r2 Ha2.out (by omega) (hT.mono (Zaa hbl2))).mono ?_;rintro e w3 ⟨X1,x1,X2,xn,x2,X3,xm,x3,rfl,hb3,-,-,rxv,-⟩;have hbl3:=hbl2.trans (hb3.mono hz2);have hz3:=hbl3.size;have o3:=o2.kept hb3;have hz23:=hb3.size;obtain⟨AX,hAX⟩:∃a:Nat,Hid ((run k ls).away.length=a):=⟨_,rfl⟩;rw[hAX.out];clear r2 hAX o2
 go_upto_region 4 with fail
 refine Zo fun W4 hk4 hsz4 hb4=>?_
 clear hsz4;have hbl4:=hbl3.trans (hb4.mono hz3);have hz4:=hbl4.size;have o4:=o3.kept hb4;have hz34:=hb4.size;have g1:=hk4.cell 0;simp at g1;obtain⟨kk,hkk⟩:∃q:Nat,Hid ((k+1)%4=q):=⟨_,rfl⟩;have hkk4:kk<4:=by rw[←hkk.out];omega
 have hkt:Int.tmod ((k:Int)+1) 4=(kk:Int):=by rw[←hkk.out,Int.tmod_eq_emod_of_nonneg (by omega)];omega
 have hkI:(kk:Int)<4:=by omega
 obtain⟨-,hx⟩:=RVws.at (rxv.mono RVw.mono (Zaa hb4));obtain⟨b1,o1,vc,vb,vv,vp,rfl,x0,xr,xc,xb,xv,xp,rc,rb,rv,rp⟩:=hx kk (by rw[Zes];exact hkk4);have hd0:=(Hlaw.out kk (by rw[Zes];exact hkk4)).1;rw[Zwl]at x0 xr rc rb rv rp hd0;generalize vwAt (run k ls) kk=P at *;obtain⟨cA,cc,rfl,-⟩:=id rc;obtain⟨bA,bc,rfl,-⟩:=id rb;obtain⟨vA,vc',rfl,-⟩:=id rv;obtain⟨pA,pc,rfl,-⟩:=id rp;clear hx rxv o3 rb rv rp hkk
 go_upto_region 7 with fail
 refine Zo fun W5 hk5 hsz5 hb5=>?_
 clear hsz5 x0 xr xc xb xv xp g1 hkt;have hbl5:=hbl4.trans (hb5.mono hz4);have hz5:=hbl5.size;have o5:=o4.kept hb5;have hz45:=hb5.size;have f1:=hk5.cell 1;have f2:=hk5.cell 2;simp at f1 f2;obtain⟨rd,hrd⟩:∃z,Hid (P.round=z):=⟨_,rfl⟩;rw[hrd.out]at f1 hk5;obtain⟨r0,hr0⟩:∃z,IntKind.i64.wrap (rd-1)=z:=⟨_,rfl⟩;have hdg:=Zlb _ P.certs r0 _ (rc.mono RCrt.mono (Zaa hb5)) (hT.mono (Zaa hbl5));rw[hd0]at hdg;obtain⟨DL,hDL⟩:∃z,Hid (digV P.certs r0=z):=⟨_,rfl⟩;rw[hDL.out]at hdg;clear hd0 hDL rc o4
 go_wp2_with fail
 refine hdg.mono ?_;rintro e w6 ⟨d6,rfl,hb6,rd6⟩;have hbl6:=hbl5.trans (hb6.mono hz5);have hz6:=hbl6.size;have o6:=o5.kept hb6;have hk6:=hk5.kept hb6;have hz56:=hb6.size;have rd6:RDigs (View.from w6.cell? w3.heap.size) d6 DL:=rd6.mono RDig.mono (Za8 (by omega));obtain⟨dA,dc,rfl,-⟩:=id rd6;have f1:=hk6.cell 1;simp at f1;clear f2 o5 hk5 hdg
 go_upto_region 11 with fail
 refine Zo fun W7 hk7 hsz7 hb7=>?_
 clear hsz7;have hbl7:=hbl6.trans (hb7.mono hz6);have hz7:=hbl7.size;have o7:=o6.kept hb7;have hz67:=hb7.size;have f1:=(hk6.kept hb7).cell 1;simp at f1;have rd7:=rd6.mono RDig.mono (Za0 _ (Zaa hb7));clear o7 hk6 rd6
 go_upto_if 69 with fail
 go_cut [69] (fun _ w'=>∃pA pn pc ps,Blk w' w6.heap.size 51 #[.int .i64 k,.int .i64 rd,.slice none 0 0,.slice pA pn pc]∧Below w6.heap.size w6 w'∧RDigs (View.from w'.cell? w3.heap.size) (.slice pA pn pc) ps)
 case first =>
  by_cases hr1:rd=1
  ·have hb1':(rd==1)=true:=by simpa using hr1
   clear hr1
   go_wp2_with (refine Zai (n:=1) rfl rfl rfl rfl (by kernel_rfl) rfl hk7 (by simp) rfl ?_)
   intro w8 hk8 hg8;have hb8:Below w6.heap.size w6 w8:=Zab hb7 hb7.size hg8 (by intro q e;injection e;omega);clear f1 hk7 hg8
   go_wp2_with fail
   go_meet;exact⟨_,_,_,[],hk8,hb8,Zxd _⟩
  ·have hb1':(rd==1)=false:=by simpa using hr1
   clear hr1
   go_wp2_with fail
   go_meet;exact⟨_,_,_,DL,hk7,hb7,rd7⟩
 case rest =>
  obtain⟨pA,pn,pc,ps,hk7,hb7,rp⟩:=hcut;obtain rfl:pn=ps.length:=(RDigs.at rp).1;obtain⟨w8,hw8⟩:∃w8:World,w8=wc:=⟨_,rfl⟩;subst hw8;have hbl8:=hbl6.trans (hb7.mono hz6);have hz8:=hbl8.size;have o8:=o6.kept hb7;have hz68:=hb7.size;have hl7:=hk7.lt;have h0:=hk7.cell 0;have h1:=hk7.cell 1;have h2:=hk7.cell 2;have h3:=hk7.cell 3;simp at h0 h1 h2 h3;clear o6 f1
  go_upto_region 14 with fail
  refine Zo fun W9 hk9 hsz9 hb9=>?_
  have hbl9:=hbl8.trans (hb9.mono hz8);have hz9:=hbl9.size;have o9:=o8.kept hb9;have hz89:=hb9.size;have hk79:=hk7.kept hb9;have hl9:=hk9.lt;clear o8 h0 h1 h2 h3 hsz9 hk7
  go_upto_region 15 with fail
  refine Za6 _ _ _ _ _ (fun W=>Code.wp _ _ _ _ W) (fun WA hkt hkb hszA hbA=>?_);have hblA:=hbl9.trans (hbA.mono hz9);have hzA:=hblA.size;have oA:=o9.kept hbA;have hz9A:=hbA.size;have hk7A:=hk79.kept hbA;have hk9A:=hk9.kept hbA;have b0:=hkb.cell 0;have b1:=hkb.cell 1;have b2:=hkb.cell 2;simp at b0 b1 b2;have t0:=hkt.cell 0;simp at t0;have rtA:RTexts (View.from WA.cell? w3.heap.size) (.slice (some ⟨W9.heap.size,0,none⟩) 1 1) [twoB]:=RVec.one twoB (by unfold View.from;rw[if_neg (by simp;omega)];exact t0) (by decide);have hbd:=Zjw (k:Int) 1 _ [twoB] WA (rtA.mono (View.from_le _ _)) (fun s hs=>by rw[List.mem_singleton.1 hs];decide) (hT.mono (Zaa hblA));obtain⟨E2,hE2⟩:∃z,Hid (Zcq (k:Int) 1 [twoB]=z):=⟨_,rfl⟩;obtain⟨XB,hXB⟩:∃z,Hid (Zto (k:Int) 1 [twoB]=z):=⟨_,rfl⟩;rw[hE2.out,hXB.out]at hbd;clear o9 hk79 hk9 hE2 hXB t0
  go_wp2_with fail
  refine hbd.mono ?_;rintro e wB ⟨dB,rfl,hbB,rdB⟩;have hblB:=hblA.trans (hbB.mono hzA);have hzB:=hblB.size;have oB:=oA.kept hbB;have hzAB:=hbB.size;have hk7B:=hk7A.kept hbB;have hk9B:=hk9A.kept hbB;have hkbB:=hkb.kept hbB;obtain⟨xA,xc,rfl,-⟩:=id rdB;have hlb:=hkb.lt;clear oA rtA hk7A hk9A b0 b1 b2 hbd;have hxn:=Blk.new wB 54 #[.slice xA XB.length xc];have hxb:=Zac wB (.cells #[.slice xA XB.length xc] 54);have hk9x:=hk9B.kept hxb
  go_wp2_with (refine Zai (n:=1) rfl rfl rfl rfl (by kernel_rfl) rfl hk9x (by simp) rfl ?_)
  intro wD hkg hgD;have hkg:Blk wD w8.heap.size 51 #[.int .i64 k,.int .i64 rd,.slice (some ⟨wB.heap.size,0,none⟩) 1 1,.slice pA ps.length pc]:=hkg;have hxz:wB.heap.size+1=(wB.alloc (.cells #[.slice xA XB.length xc] 54)).heap.size:=by simp
  have hgz:=hgD.size
  have hbD:Below w8.heap.size w8 wD:=by
   have h1:Below w8.heap.size w8 (wB.alloc (.cells #[.slice xA XB.length xc] 54)):=(hb9.trans (hbA.mono hz89)).trans ((hbB.mono (by omega)).trans (hxb.mono (by omega)));exact Zab h1 h1.size hgD (by intro q e;injection e;omega)
  have hcD:Chg [w8.heap.size] wB wD:=(Chg.of_below hxb (Nat.le_refl _)).trans (.of_grown hgD (by simp));have hblD:=hbl8.trans (hbD.mono hz8);have hzD:=hblD.size;have hzBD:=hcD.size;have oD:=oB.chg2 hcD (fun q e=>by simp[Value.ownBlock]at e;simp;omega);have rpD:=((rp.mono RDig.mono mid_start).mono RDig.mono (mid_chg (g:=w8.heap.size) (Chg.of_below hbD (Nat.le_refl _)) (.inr (Nat.le_refl _)))).mono RDig.mono (mid_wide (b':=w3.heap.size) (z':=wD.heap.size) (Nat.le_refl _) (by omega));have hktD:=((hkt.kept hbB).alloc (.cells #[.slice xA XB.length xc] 54)).grown hgD (by intro e;injection e;omega);have h16:=(hkbB.alloc (.cells #[.slice xA XB.length xc] 54)).grown hgD (by intro e;injection e;omega);have h14:=(hk7B.alloc (.cells #[.slice xA XB.length xc] 54)).grown hgD (by intro e;injection e;omega);have hxD:=hxn.grown hgD (by intro e;injection e;omega);have t0:=hktD.cell 0;have u0:=hxD.cell 0;simp at t0 u0;have hxl:=hxD.lt;have htl:=hktD.lt;have rtD:RTexts (Mid w3.heap.size wD.heap.size wD) (.slice (some ⟨W9.heap.size,0,none⟩) 1 1) [twoB]:=RVec.one twoB (mid_cell t0 (by omega) htl) (by decide);have rdD:=((rdB.mono mid_start).mono (mid_chg hcD (.inl (by omega)))).mono (mid_wide (b':=w3.heap.size) (z':=wD.heap.size) (by omega) hzBD);have rxD:RDigs (Mid w3.heap.size wD.heap.size wD) (.slice (some ⟨wB.heap.size,0,none⟩) 1 1) [XB]:=Zx5 (mid_cell u0 (by omega) hxl) rdD;have hrow:RowA g0 wD wD w.heap.size (.slice (some ⟨g0,0,none⟩) ls.length cap0) ls:=⟨oD,fun g e=>by simp[Value.ownBlock]at e;exact .inl e.symm,Chg.refl _ _,Ha2.out⟩;have hl14:=h14.lt;have hl16:=h16.lt;have hl15:=hkg.lt;obtain⟨g14,hg14⟩:∃q,Hid (w6.heap.size=q):=⟨_,rfl⟩;obtain⟨g15,hg15⟩:∃q,Hid (w8.heap.size=q):=⟨_,rfl⟩;obtain⟨g16,hg16⟩:∃q,Hid (W9.heap.size+1=q):=⟨_,rfl⟩;obtain⟨gt,hgt⟩:∃q,Hid (W9.heap.size=q):=⟨_,rfl⟩;obtain⟨gx,hgx⟩:∃q,Hid (wB.heap.size=q):=⟨_,rfl⟩;obtain⟨BB,hBB⟩:∃q,Hid (w3.heap.size=q):=⟨_,rfl⟩
  have hbounds:g0<BB∧BB≤g14∧BB≤g15∧BB≤g16∧g14<wD.heap.size∧g15<wD.heap.size∧g16<wD.heap.size:=by
   rw[←hg14.out,←hg15.out,←hg16.out,←hBB.out];omega
  rw[hg14.out]at h14;rw[hg15.out]at hkg;rw[hg16.out,hgt.out]at h16;rw[hBB.out,hgt.out]at rtD;rw[hBB.out]at rpD;rw[hBB.out,hgx.out]at rxD;rw[hgx.out]at hkg;obtain⟨hb0,hb14,hb15,hb16,hz14,hz15,hz16⟩:=hbounds;rw[hg14.out,hg15.out,hg16.out,hgt.out];have hTD:=hT.mono (Zaa hblD);clear hg14 hg15 hg16 hgt hgx hBB hktD hxD t0 u0 rdD oD hcD hbD hgD hk9x hxn hxb hk9B hkbB hk7B hkt hkb rdB hbB hbA hb9 hb7 hb6 hb5 hb4 hb3 hb2 hxl htl hl14 hl16 hl15 rp oB hk4;have Hs2:Hid (∀s∈[twoB],s.size≤140737488355328):=Lib.hid (fun s hs=>by rw[List.mem_singleton.1 hs];decide);have Hf1:=Lib.hid (fun(j:Nat) (W:World) (r:RTexts W.cell? (.slice (some ⟨gt,0,none⟩) 1 1) [twoB])=>forge_any (j:Int) ⟨k,0,1,⟨k,1,[twoB]⟩,⟨0,0,[],[]⟩,⟨0,0,[]⟩,⟨⟨0,0,[],[]⟩,[]⟩,0⟩ _ _ _ _ _ _ _ W ⟨r,Zxd _,Zxd _,RVec.nil _ _ _,Zxd _,Zxd _,RVec.nil _ _ _⟩ Hs2.out);have Hf2:=Lib.hid (fun(j:Nat) (W:World) (u:Option Addr) (bs:List (List UInt8)) (c:Nat) (r:RDigs W.cell? (.slice u bs.length c) bs) (rp:RDigs W.cell? (.slice pA ps.length pc) ps)=>forge_any (j:Int) ⟨k,0,2,⟨0,0,[]⟩,⟨k,rd,bs,ps⟩,⟨0,0,[]⟩,⟨⟨0,0,[],[]⟩,[]⟩,0⟩ _ _ _ _ _ _ _ W ⟨RVec.nil _ _ _,r,rp,RVec.nil _ _ _,Zxd _,Zxd _,RVec.nil _ _ _⟩ (fun s hs=>by cases hs));have Hf4:=Lib.hid (fun(j:Nat) (W:World) (u:Option Addr) (bs:List (List UInt8)) (c:Nat) (vA:Option Addr) (vs:List Int) (vc:Nat) (r:RDigs W.cell? (.slice u bs.length c) bs) (rp:RDigs W.cell? (.slice pA ps.length pc) ps) (rv:RIs W.cell? (.slice vA vs.length vc) vs)=>forge_any (j:Int) ⟨k,0,4,⟨0,0,[]⟩,⟨0,0,[],[]⟩,⟨0,0,[]⟩,⟨⟨k,rd,bs,ps⟩,vs⟩,0⟩ _ _ _ _ _ _ _ W ⟨RVec.nil _ _ _,Zxd _,Zxd _,RVec.nil _ _ _,r,rp,rv⟩ (fun s hs=>by cases hs));unfold msgC at Hf1 Hf2 Hf4;simp only[List.length_nil,List.length_cons]at Hf1 Hf2 Hf4;go_wp2
  go_loopw [8,19,20,21] (fun vr i _ _ wr=>∃(j:Nat) (xs:List At),j≤4∧i=.int .i64 j∧0<xs.length∧xs.length≤79+3*j∧RowA g0 wD wr w.heap.size vr xs) (fun _ i _ _ _=>4-(intOf i).toNat)
  case atStart=>exact⟨0,ls,by omega,rfl,by omega,by omega,hrow⟩
  case round =>
   obtain⟨j,xs,hj,rfl,hx0,hxl,hrow⟩:=hrel;obtain⟨gv,cv,rfl,hgv0,hgvl,hgvo⟩:=hrow.there hx0;have hch:=hrow.chg;have hzr:=hch.size;have q14:=h14.chg hch (by simp;omega);have q15:=hkg.chg hch (by simp;omega);have q16:=h16.chg hch (by simp;omega)
   by_cases hlt:j<4
   ·have hjI:(j:Int)<4:=by omega
    have hj0:0≤(j:Int):=by omega
    have e0:=q14.cell 0;have e1:=q14.cell 1;have e2:=q14.cell 2;have e3:=q14.cell 3;simp at e0 e1 e2 e3
    go_upto_region 21 with fail
    refine Zo fun WE hkE hszE hbE=>?_
    have q15E:=q15.kept hbE;have hzE:=hbE.size;have f0:=q15E.cell 0;have f1:=q15E.cell 1;have f2:=q15E.cell 2;have f3:=q15E.cell 3;simp at f0 f1 f2 f3;clear e0 e1 e2 e3 hszE
    go_upto_region 22 with fail
    refine Zo fun WF hkF hszF hbF=>?_
    have hltE:=hkE.lt;have hkEF:=hkE.kept hbF;have hbEF:=hbE.trans (hbF.mono hzE);have hzF:=hbF.size;clear f0 f1 f2 f3 hszF
    go_wp2_with fail
    refine(H2.out _).mono ?_;rintro e wz ⟨rfl,rfl⟩
    go_upto_if 94 with fail
    obtain⟨cb,hcb⟩:∃cb,Hid ((bits BinOp.and IntKind.i64 (M/2^j) 1==1)=cb):=⟨_,rfl⟩;rw[hcb.out];have hc1:=hch.trans (Chg.of_below hbEF (Nat.le_refl _) (G:=[g0]));have rp1:=rpD.mono RDig.mono (mid_chg hc1 (.inl hb0));have rx1:=rxD.mono RDig.mono (mid_chg hc1 (.inl hb0));have q14F:=(q14.kept hbE).kept hbF;have q15F:=q15E.kept hbF
    go_cut [94] (fun _ w'=>∃(u1 u2:Option Addr) (l1 l2:List (List UInt8)) (d1 d2:Nat),Blk w' wr.heap.size 51 #[.int .i64 k,.int .i64 rd,.slice u1 l1.length d1,.slice pA ps.length pc]∧Blk w' WE.heap.size 51 #[.int .i64 k,.int .i64 rd,.slice u2 l2.length d2,.slice pA ps.length pc]∧RDigs (Mid BB wD.heap.size w') (.slice u1 l1.length d1) l1∧RDigs (Mid BB wD.heap.size w') (.slice u2 l2.length d2) l2∧Below wr.heap.size wr w')
    case first =>
     have hlE:=hkE.lt;have hlF:=hkF.lt;cases cb with
     |true =>
      have f0:=q15F.cell 0;have f1:=q15F.cell 1;have f2:=q15F.cell 2;have f3:=q15F.cell 3;simp at f0 f1 f2 f3
      go_wp2_with (refine Zj 4 hkEF ?_)
      intro wG hkG hgG;have hbG:Below wr.heap.size wr wG:=Zab hbEF hbEF.size hgG (by intro q e;injection e;omega);have q14G:=q14F.grown hgG (by intro e;injection e;omega);have hkFG:=hkF.grown hgG (by intro e;injection e;omega);have e0:=q14G.cell 0;have e1:=q14G.cell 1;have e2:=q14G.cell 2;have e3:=q14G.cell 3;simp at e0 e1 e2 e3;clear f0 f1 f2 f3
      go_wp2_with (refine Zj 4 hkFG ?_)
      intro wH hkH hgH;have hbH:Below wr.heap.size wr wH:=Zab hbG hbG.size hgH (by intro q e;injection e;omega);have hkGH:=hkG.grown hgH (by intro e;injection e;omega);have hcH:=hch.trans (Chg.of_below hbH (Nat.le_refl _) (G:=[g0]));have rxH:=rxD.mono RDig.mono (mid_chg hcH (.inl hb0));clear e0 e1 e2 e3
      go_wp2_with fail
      go_meet;exact⟨_,_,[XB],[],_,_,hkGH,hkH,rxH,Zxd _,hbH⟩
     |false =>
      go_wp2_with fail
      go_meet;exact⟨_,_,[],[XB],_,_,hkEF,hkF,Zxd _,rx1,hbEF⟩
    case rest =>
     obtain⟨u1,u2,l1,l2,d1,d2,hkE,hkF,rl1,rl2,hbG⟩:=hcut;obtain⟨wG,hwG⟩:∃w:World,w=wc:=⟨_,rfl⟩;subst hwG;have hrG:=hrow.kept hbG;have hzG:=hbG.size;have hcG:=hrG.chg;have q16G:=q16.kept hbG;have rpG:=rpD.mono RDig.mono (mid_chg hcG (.inl hb0));have rtG:=rtD.mono (mid_chg hcG (.inl hb0));have h2z:w.heap.size≤wG.heap.size:=by omega
     go_upto_region 25 with fail
     refine Zt (fun w'=>Below wG.heap.size wG w') (fun w'=>Below wG.heap.size wG w') [17,18] (.q 0 (.q 1 (.q 2 (.q 3 (.q 4 (.q 6 (.q 7 (.q 8 (.q 9 (.q 11 (.q 12 (.q 13 (.q 14 (.l 5 (.l 10 (.l 15 (.l 16 (.l 17 (.qc 18 .nil))))))))))))))))))) ?_ ?_
     ·exact⟨Zad _,Zad _⟩
     intro Wp _ hS
     repeat((first|refine pq (h:=⟨_,fun w' hS=>by(have z:=q16G.kept hS;have a0:=z.cell 0;have a1:=z.cell 1;have a2:=z.cell 2;have y:=hkE.kept hS;have b0:=y.cell 0;have b1:=y.cell 1;have b2:=y.cell 2;have b3:=y.cell 3;have x:=hkF.kept hS;have d0:=x.cell 0;have d1:=x.cell 1;have d2:=x.cell 2;have d3:=x.cell 3;simp at a0 a1 a2 b0 b1 b2 b3 d0 d1 d2 d3;go_simp;exact rfl),?_⟩)|refine Zq ?_);simp only[sx])
     refine Zd fun K hK=>?_
     try simp only[sy]
     go_simp;have v0:∀{W:World},Below wG.heap.size wG W→VLe (Mid BB wD.heap.size wG) W.cell?:=fun h=>(mid_le _ _ _).trans (Zaa h)
     refine(Hf1.out j _ (rtG.mono (v0 hS))).mono ?_;rintro e wI ⟨t1,rfl,hbI,ht1⟩;have hSI:=hS.trans (hbI.mono hS.size);refine hK.out _ _ (hSI) fun hS=>?_
     clear hK K
     try simp only[sx]
     repeat(refine Zq ?_;simp only[sx])
     refine Zd fun K hK=>?_
     try simp only[sy]
     go_simp;refine(Hf2.out j _ u1 l1 d1 (rl1.mono RDig.mono (v0 hSI)) (rpG.mono RDig.mono (v0 hSI))).mono ?_;rintro e wJ ⟨t2,rfl,hbJ,ht2⟩;have hSJ:=hSI.trans (hbJ.mono hSI.size);refine hK.out _ _ (hSJ) fun hS=>?_
     clear hK K
     try simp only[sx]
     repeat(refine Zq ?_;simp only[sx])
     refine Zd fun K hK=>?_
     try simp only[sy]
     go_simp;refine(Hf2.out j _ u2 l2 d2 (rl2.mono RDig.mono (v0 hSJ)) (rpG.mono RDig.mono (v0 hSJ))).mono ?_;rintro e wK ⟨t3,rfl,hbK,ht3⟩;have hSK:=hSJ.trans (hbK.mono hSJ.size);refine hK.out _ _ (hSK) fun hS=>?_
     clear hK K
     try simp only[sx]
     repeat(refine Zq ?_;simp only[sx])
     refine Zd fun K hK=>?_
     try simp only[sy]
     go_simp;have hy:=RAts.ofBlk [Zvl j t1,Zvl j t2,Zvl j t3] (Blk.new wK 58 #[.int .i64 9,.int .i64 j,.int .i64 0,.string t1,.int .i64 9,.int .i64 j,.int .i64 0,.string t2,.int .i64 9,.int .i64 j,.int .i64 0,.string t3]) rfl (by simp);have hzK:=hSK.size;have hrK:=(hrG.kept hSK).alloc (.cells #[.int .i64 9,.int .i64 j,.int .i64 0,.string t1,.int .i64 9,.int .i64 j,.int .i64 0,.string t2,.int .i64 9,.int .i64 j,.int .i64 0,.string t3] 58);have hya:Hid (Acts [Zvl j t1,Zvl j t2,Zvl j t3]):=Lib.hid (Acts.cons (Zxs ⟨by omega,by omega⟩ ht1) (Acts.cons (Zxs ⟨by omega,by omega⟩ ht2) (Acts.cons (Zxs ⟨by omega,by omega⟩ ht3) Acts.nil)));refine hK.out _ _ (Zn8 hSK) fun hS=>?_
     clear hK K
     try simp only[sx]
     repeat(refine Zq ?_;simp only[sx])
     refine Zc fun K hK=>?_
     try simp only[sy]
     refine wp_append_acts (xs:=xs) (ys:=[Zvl j t1,Zvl j t2,Zvl j t3]) (k:=3) _ _ rfl rfl hrK.own (by simp;omega) rfl hy rfl (by decide) (by omega) (fun v' wL hoL hgL hlL=>?_);have hrL:=hrK.grow hoL hgL hlL hya.out;obtain⟨LN,hLN⟩:∃n,Hid (xs++[Zvl j t1,Zvl j t2,Zvl j t3]=n):=⟨_,rfl⟩;have hLl:LN.length=xs.length+3:=by rw[←hLN.out];simp
     rw[hLN.out]at hrL;refine hK.out _ _ ?_;clear hK K
     try simp only[sx]
     repeat(refine Zq ?_;simp only[sx])
     refine Zah ?_;go_wp2;go_roundw
     case rel=>exact⟨j+1,LN,by omega,by go_num,by omega,by omega,hrL⟩
     case measure=>simp[intOf];omega
   ·have hjI:¬(j:Int)<4:=by omega
    have hxl:xs.length≤91:=by omega
    clear q14 q15 q16 hch;go_wp2
    go_loopw [8,22] (fun vr i wr=>∃(j:Nat) (xs:List At),j≤4∧i=.int .i64 j∧0<xs.length∧xs.length≤91+j∧RowA g0 wD wr w.heap.size vr xs) (fun _ i _=>4-(intOf i).toNat)
    case atStart=>exact⟨0,xs,by omega,rfl,hx0,by omega,hrow⟩
    case round =>
     clear hx0 hrow hgvo hgvl hgv0 hxl;obtain⟨j,xs,hj,rfl,hx0,hxl,hrow⟩:=hrel;obtain⟨gv,cv,rfl,hgv0,hgvl,hgvo⟩:=hrow.there hx0
     by_cases hlt:j<4
     ·have hjI:(j:Int)<4:=by omega
      have hy:=RAts.ofBlk [Zc1 j] (Blk.new wr 58 #[.int .i64 3,.int .i64 j,.int .i64 0,.string ⟨#[]⟩]) rfl (by simp);have hrK:=hrow.alloc (.cells #[.int .i64 3,.int .i64 j,.int .i64 0,.string ⟨#[]⟩] 58);have hya:Hid (Acts [Zc1 j]):=Lib.hid (Acts.cons (Zpz ⟨by omega,by omega⟩) Acts.nil)
      go_wp2_with (at_builtin;go_loud (refine wpList_append_acts (xs:=xs) (ys:=[Zc1 j]) (k:=1) _ _ rfl rfl rfl hrK.own (by simp;omega) rfl hy rfl (by decide) (by omega) ?_))
      intro v' wL hoL hgL hlL;have hrL:=hrK.grow hoL hgL (fun q e=>(hlL q e).imp id (fun h=>by simp;omega)) hya.out;obtain⟨LN,hLN⟩:∃n,Hid (xs++[Zc1 j]=n):=⟨_,rfl⟩;have hLl:LN.length=xs.length+1:=by rw[←hLN.out];simp
      rw[hLN.out]at hrL;clear hoL hgL hlL hy hrK hrow hLN;go_wp2;go_roundw
      case rel=>exact⟨j+1,LN,by omega,by go_num,by omega,by omega,hrL⟩
      case measure=>simp[intOf];omega
     ·have hjI:¬(j:Int)<4:=by omega
      have hxl:xs.length≤95:=by omega
      go_wp2
      go_loopw [8,23,24,25,26] (fun vr i _ _ _ wr=>∃(j:Nat) (xs:List At),j≤4∧i=.int .i64 j∧0<xs.length∧xs.length≤95+10*j∧RowA g0 wD wr w.heap.size vr xs) (fun _ i _ _ _ _=>4-(intOf i).toNat)
      case atStart=>exact⟨0,xs,by omega,rfl,hx0,by omega,hrow⟩
      case round =>
       clear hx0 hrow hgvo hgvl hgv0 hxl;obtain⟨j,xs,hj,rfl,hx0,hxl,hrow⟩:=hrel
       by_cases hlt:j<4
       ·have hjI:(j:Int)<4:=by omega
        obtain⟨wj,hwj⟩:∃wj:World,wj=wr:=⟨_,rfl⟩;subst hwj;go_wp2
        go_loopw [8,24,25,26] (fun vr i _ _ wr=>∃(q:Nat) (xs:List At),q≤5∧i=.int .i64 q∧0<xs.length∧xs.length≤95+10*j+2*q∧RowA g0 wD wr w.heap.size vr xs) (fun _ i _ _ _=>5-(intOf i).toNat)
        case atStart=>exact⟨0,xs,by omega,rfl,hx0,by omega,hrow⟩
        case round =>
         clear hx0 hrow hxl;obtain⟨q,xs,hq,rfl,hx0,hxl,hrow⟩:=hrel;obtain⟨gv,cv,rfl,hgv0,hgvl,hgvo⟩:=hrow.there hx0
         by_cases hlq:q<5
         ·have hqI:(q:Int)<5:=by omega
          obtain⟨wq,hwq⟩:∃wq:World,wq=wr:=⟨_,rfl⟩;subst hwq;have hcq:=hrow.chg;have hzq:=hcq.size;go_wp2
          go_loopw [25,26] (fun vv i wr=>∃(a4:Nat) (vs:List Int),a4≤4∧i=.int .i64 a4∧vs.length≤a4∧OwnI wr wq.heap.size vv vs∧Below wq.heap.size wq wr) (fun _ i _=>4-(intOf i).toNat)
          case atStart=>exact⟨0,[],by omega,rfl,by simp,OwnVec.nil _ _ _ _,Below.refl _ _⟩
          case round =>
           obtain⟨a4,vs,ha4,rfl,hvl,hown,hbv⟩:=hrel;obtain⟨vA,vc,rfl⟩:=hown.form;have hzv:=hbv.size
           by_cases hla:a4<4
           ·have haI:(a4:Int)<4:=by omega
            by_cases hne:a4=q
            ·have hnb:((a4:Int) != (q:Int))=false:=by simp[hne]
             clear hne;go_wp2;go_roundw
             case rel=>exact⟨a4+1,vs,by omega,by go_num,by omega,hown,hbv⟩
             case measure=>simp[intOf];omega
            ·have hnb:((a4:Int) != (q:Int))=true:=by simp;omega
             clear hne
             go_wp2_with (at_builtin;refine Zhr (n:=140737488355328) (W:=wq) (a4:Int) Zvn Zib _ _ rfl rfl rfl hown hbv (by omega) rfl (Nat.le_refl _) (by omega) (by omega) ?_)
             intro v7 w7 ho7 hb7 hg7;go_wp2;go_roundw
             case rel=>exact⟨a4+1,vs++[(a4:Int)],by omega,by go_num,by simp;omega,ho7,hb7⟩
             case measure=>simp[intOf];omega
           ·have haI:¬(a4:Int)<4:=by omega
            have hrG:=hrow.kept hbv;have hcG:=hrG.chg;have q14:=h14.chg hcG (by simp;omega);have q15:=hkg.chg hcG (by simp;omega);have rpG:=rpD.mono RDig.mono (mid_chg hcG (.inl hb0));have rxG:=rxD.mono RDig.mono (mid_chg hcG (.inl hb0));have rvG:RIs wr.cell? (.slice vA vs.length vc) vs:=hown.reads (by omega);clear hown hcq
            go_upto_region 42 with fail
            refine Zt (fun w'=>Below wr.heap.size wr w') (fun w'=>Below wr.heap.size wr w') [16,17] (.q 0 (.q 1 (.q 2 (.q 3 (.q 4 (.q 5 (.q 6 (.q 8 (.q 9 (.q 10 (.q 11 (.q 12 (.q 13 (.l 7 (.l 14 (.l 15 (.l 16 (.qc 17 .nil)))))))))))))))))) ?_ ?_
            ·exact⟨Zad _,Zad _⟩
            intro Wp _ hS
            repeat((first|refine pq (h:=⟨_,fun w' hS=>by(have y:=q14.kept hS;have b0:=y.cell 0;have b1:=y.cell 1;have b2:=y.cell 2;have b3:=y.cell 3;have x:=q15.kept hS;have d0:=x.cell 0;have d1:=x.cell 1;have d2:=x.cell 2;have d3:=x.cell 3;simp at b0 b1 b2 b3 d0 d1 d2 d3;go_simp;exact rfl),?_⟩)|refine Zq ?_);simp only[sx])
            refine Zd fun K hK=>?_
            try simp only[sy]
            go_simp;have v0:∀{W:World},Below wr.heap.size wr W→VLe (Mid BB wD.heap.size wr) W.cell?:=fun h=>(mid_le _ _ _).trans (Zaa h)
            refine(Hf4.out j _ none [] 0 vA vs vc (Zxd _) (rpG.mono RDig.mono (v0 hS)) (rvG.mono (Zaa hS))).mono ?_;rintro e wI ⟨t1,rfl,hbI,ht1⟩;have hSI:=hS.trans (hbI.mono hS.size);refine hK.out _ _ (hSI) fun hS=>?_
            clear hK K
            try simp only[sx]
            repeat(refine Zq ?_;simp only[sx])
            refine Zd fun K hK=>?_
            try simp only[sy]
            go_simp;refine(Hf4.out j _ (some ⟨gx,0,none⟩) [XB] 1 vA vs vc (rxG.mono RDig.mono (v0 hSI)) (rpG.mono RDig.mono (v0 hSI)) (rvG.mono (Zaa hSI))).mono ?_;rintro e wK ⟨t2,rfl,hbK,ht2⟩;have hSK:=hSI.trans (hbK.mono hSI.size);refine hK.out _ _ (hSK) fun hS=>?_
            clear hK K
            try simp only[sx]
            repeat(refine Zq ?_;simp only[sx])
            refine Zd fun K hK=>?_
            try simp only[sy]
            go_simp;have hy:=RAts.ofBlk [Zvl j t1,Zvl j t2] (Blk.new wK 58 #[.int .i64 9,.int .i64 j,.int .i64 0,.string t1,.int .i64 9,.int .i64 j,.int .i64 0,.string t2]) rfl (by simp);have hzK:=hSK.size;have hrK:=(hrG.kept hSK).alloc (.cells #[.int .i64 9,.int .i64 j,.int .i64 0,.string t1,.int .i64 9,.int .i64 j,.int .i64 0,.string t2] 58);have hya:Hid (Acts [Zvl j t1,Zvl j t2]):=Lib.hid (Acts.cons (Zxs ⟨by omega,by omega⟩ ht1) (Acts.cons (Zxs ⟨by omega,by omega⟩ ht2) Acts.nil));refine hK.out _ _ (Zn8 hSK) fun hS=>?_
            clear hK K
            try simp only[sx]
            repeat(refine Zq ?_;simp only[sx])
            refine Zc fun K hK=>?_
            try simp only[sy]
            refine wp_append_acts (xs:=xs) (ys:=[Zvl j t1,Zvl j t2]) (k:=2) _ _ rfl rfl hrK.own (by simp;omega) rfl hy rfl (by decide) (by omega) (fun v' wL hoL hgL hlL=>?_);have hrL:=hrK.grow hoL hgL hlL hya.out;obtain⟨LN,hLN⟩:∃n,Hid (xs++[Zvl j t1,Zvl j t2]=n):=⟨_,rfl⟩;have hLl:LN.length=xs.length+2:=by rw[←hLN.out];simp
            rw[hLN.out]at hrL;refine hK.out _ _ ?_;clear hK K
            try simp only[sx]
            repeat(refine Zq ?_;simp only[sx])
            refine Zah ?_;go_wp2;go_roundw
            case rel=>exact⟨q+1,LN,by omega,by go_num,by omega,by omega,hrL⟩
            case measure=>simp[intOf];omega
         ·have hqI:¬(q:Int)<5:=by omega
          go_wp2;go_roundw
          case rel=>exact⟨j+1,xs,by omega,by go_num,hx0,by omega,hrow⟩
          case measure=>simp[intOf];omega
       ·have hjI:¬(j:Int)<4:=by omega
        obtain⟨gv,cv,rfl,hgv0,hgvl,hgvo⟩:=hrow.there hx0;have hxl:xs.length≤135:=by omega
        go_wp2_with fail
        refine(calm_any 5 _ (by decide)).mono ?_;rintro e wL ⟨vL,rfl,hbL,oL⟩;obtain⟨qL,hqL⟩:∃q,Hid (calmA 5=q):=⟨_,rfl⟩;have hq3:(calmA 5).length=49:=by decide
        have HQ:=Lib.hid (calmA_acts 5);rw[hqL.out]at oL hq3 HQ;have hq4:qL.length≤49:=by omega
        clear hq3;obtain⟨lA,lc',rfl⟩:=oL.form;have rq:=oL.reads (by omega);have hrL:=hrow.kept hbL;have rA:=hrL.own.reads (by omega);have hzL:=hrL.chg.size;clear oL hqL hrow
        go_wp2_with fail
        refine(Zq3 _ _ xs qL _ rA rq (by omega)).mono ?_;rintro e wM ⟨vM,rfl,hbM,oM⟩;have HaF:Hid (Acts (xs++qL)):=Lib.hid (hrL.acts.append HQ.out);have hlF:(xs++qL).length≤200:=by simp;omega
        have hbDM:Below w.heap.size wD wM:=(hrL.chg.trans (Chg.of_below hbM (Nat.le_refl _))).below (by simpa using hg0) (by omega);have hblM:=hblD.trans hbDM;have hzM:=hblM.size;have Hl1:=Lib.hid (views_one Hr.out HaF.out);have Hl2:=Lib.hid (views_sound Hr.out HaF.out);obtain⟨lf,hlf⟩:∃q,Hid (xs++qL=q):=⟨_,rfl⟩;rw[hlf.out]at oM HaF hlF Hl1 Hl2;obtain⟨mA,mc,rfl⟩:=oM.form;have rM:=oM.reads (by omega);clear oM rA rq hlf hrL
        go_wp2_with fail
        refine(Zrj (k:Int) _ lf _ Hr.out rM HaF.out (by omega) (hT.mono (Zaa hblM))).mono ?_;rintro e wN ⟨Z1,z1,Z2,zn,z2,Z3,zm,z3,rfl,hbN,-,-,rzv,rzs⟩;have hblN:=hblM.trans (hbN.mono hzM);have hzN:=hblN.size;obtain⟨AZ,hAZ⟩:∃a:Nat,Hid ((run k lf).away.length=a):=⟨_,rfl⟩;rw[hAZ.out];clear hAZ rM
        go_upto_region 44 with fail
        refine Zo fun WZ hkZ hszZ hbZ=>?_
        clear hszZ;have hblZ:=hblN.trans (hbZ.mono hzN);have hzZ:=hblZ.size;have qZ:=Zaa hbZ;have rzv:=rzv.mono RVw.mono qZ;have rzs:=rzs.mono RSign.mono qZ;have hTZ:=hT.mono (Zaa hblZ)
        go_wp2_with (refine wpList_load_row_g rfl 28 _ rfl _ rfl _ _ _ _ hkZ Tryz.underlying28 rfl (by kernel_rfl) ?_)
        refine(one_any _ _ _ _ AZ _ (Zhg (run k lf)) _ rzv ⟨_,_,_,rfl⟩ ⟨_,_,_,rfl⟩ hTZ Hl1.out).mono ?_;rintro e wO ⟨rfl,hbO⟩;have hkO:=hkZ.kept hbO;have hblO:=hblZ.trans (hbO.mono hzZ);have hzO:=hblO.size;have qO:=Zaa hbO
        go_wp2_with (refine wpList_load_row_g rfl 28 _ rfl _ rfl _ _ _ _ hkO Tryz.underlying28 rfl (by kernel_rfl) ?_)
        refine(sound_any (k:Int) _ _ _ _ _ _ AZ _ (Zhg (run k lf)) (run k lf).signs _ (rzv.mono RVw.mono qO) (rzs.mono RSign.mono qO) ⟨_,_,_,rfl⟩ (hTZ.mono qO) Hl2.out).mono ?_;rintro e wP ⟨rfl,hbP⟩;go_wp2;go_ret;exact⟨rfl,hblO.trans (hbP.mono hzO)⟩
theorem topFaces_open{H:Type}{enc:TypeId×Value→H}(W:World)(hT:Tabs W.cell?){base:Nat}{v1 v2:Value}{d d1 d2:DataW H}{p p1 p2:List MemPlace}(hval:Value.okWide Tryz.prog W .any base 22 v)(h:DataW.Trod enc Tryz.prog W 0 (fun _=>true) true 22 v d p)(hw:∀n∈DataW.weights Tryz.prog 22 d,n≤reachBytes)(hval1:Value.okWide Tryz.prog W .any base 3 v1)(h1:DataW.Trod enc Tryz.prog W 0 (fun _=>true) true 3 v1 d1 p1)(hw1:∀n∈DataW.weights Tryz.prog 3 d1,n≤reachBytes)(hval2:Value.okWide Tryz.prog W .any base 3 v2)(h2:DataW.Trod enc Tryz.prog W 0 (fun _=>true) true 3 v2 d2 p2)(hw2:∀n∈DataW.weights Tryz.prog 3 d2,n≤reachBytes):Calls Tryz.prog 4 #[v,v1,v2] W fun e w'=>e=.returned (.bool true)∧Below W.heap.size W w':=by
 obtain⟨l,hl,hg⟩:=Zsz hval h hw;obtain⟨n,rfl,hn⟩:=Zrm hval1 h1 hw1;obtain⟨m,rfl,hm⟩:=Zrm hval2 h2 hw2;exact topFaces_any _ l n m _ hl hg hn hm hT
end Fl
open Fl in
theorem topFaces_lifted(os:Os)(started:os.Started)(H:Type)(enc:TypeId×Value→H) :
 ReturnsInHanded {} Tryz.checked os 4 .any (fun w args=>(Rows.topFacesSpec.pre enc Tryz.prog Tryz.f4 [] false w args∧laidMetH Tryz.prog Zvd w)∧sizedMet enc Tryz.prog Tryz.f4 (OpenSpec.ofChange Rows.topFacesSpec) false w args) (Rows.topFacesSpec.post enc Tryz.prog Tryz.f4 false true false false):=by
 refine returnsInHanded_of_change_and (C:=Tryz.checked) (X:=fun w _=>laidMetH Tryz.prog Zvd w) (fun _ _ _ hh h=>h.of_heap hh) own_ started (by kernel_rfl) Tryz.func4
  (ChangeSpec.witness_shaped (enc:=enc) (C:=Tryz.checked) (os:=os) (X:=fun w _=>laidMetH Tryz.prog Zvd w) false (World.doorLaid Tryz.prog 400 os) #[.slice none 0 0,.int .i64 0,.int .i64 0] 8 rfl (World.shaped_of_RefB (by kernel_rfl) (by kernel_rfl)) (by kernel_rfl) (by kernel_rfl) (by kernel_rfl) (Zx4 os _)) ?_
 intro W base args ds gs before hval0 hW _ hsz hL _;have hval:∀(j:Nat) t v,Tryz.f4.params[j]?=some t→args[j]?=some v→Value.okWide Tryz.prog W .any base t v:=hval0;have hW':=hW;obtain⟨p,q,hA,hV,rfl,hfz,hnd⟩:=hW;obtain⟨rfl,rfl⟩:=trodVars_none hV;have hA:DataW.TrodAll enc Tryz.prog W 0 (fun _=>true) true Tryz.f4.params.toList args.toList ds p:=hA;rw[Tryz.params4]at hA hval hsz;obtain⟨v0,v1,v2,d0,d1,d2,p0,p1,p2,rfl,rfl,rfl,h0,h1,h2⟩:=trodAll_three hA;have hs0:∀n∈DataW.weights Tryz.prog _ d0,n≤reachBytes:=fun n hn=>by simpa using List.all_eq_true.1 hsz n (DataW.weights_mem_each (j:=0) rfl rfl n hn)
 have hs1:∀n∈DataW.weights Tryz.prog _ d1,n≤reachBytes:=fun n hn=>by simpa using List.all_eq_true.1 hsz n (DataW.weights_mem_each (j:=1) rfl rfl n hn)
 have hs2:∀n∈DataW.weights Tryz.prog _ d2,n≤reachBytes:=fun n hn=>by simpa using List.all_eq_true.1 hsz n (DataW.weights_mem_each (j:=2) rfl rfl n hn)
 refine(topFaces_open W (Zzg hL) (hval 0 _ _ rfl rfl) h0 hs0 (hval 1 _ _ rfl rfl) h1 hs1 (hval 2 _ _ rfl rfl) h2 hs2).mono fun e W' ⟨he,hb⟩=>?_
 exact Zva Zzk (b:=4) rfl Tryz.underlying4 rfl (Zur _ (by kernel_rfl)) rfl hW' he hb
theorem topFaces_holds:Rows.TopFacesSaid :=
 OpenClaim.holds_of_wide 4 Tryz.f4 rfl rfl rfl rfl rfl rfl rfl ⟨rfl,rfl,rfl,rfl,rfl⟩ rfl rfl rfl rfl rfl (by kernel_rfl) Tryz.func4 (by kernel_rfl)
  (of_decide_eq_true (by kernel_rfl)) (by unfold Func.isWrapper;first|(rw[if_pos (by decide +kernel)];kernel_rfl)|(rw[if_neg (by decide +kernel)];exact⟨rfl,rfl⟩))
  (fun os started H enc _=>topFaces_lifted os started H enc)
theorem topFaces_card:Rows.TopFacesCardSaid :=
 Claim7.holds_tied_plain_at .later [] [.widerDeep,.data,.data] true Rows.topFacesCard.stood.harness false
  topFaces_holds (fun _ h=>by cases h) (by kernel_rfl) (fun _ h=>by cases h) topFaces_row_tie rfl ⟨rfl,rfl⟩ (by kernel_rfl) rfl
  (fun f fn hf hfn=>by
   obtain rfl : f = 4 := Option.some.inj ((show Tryz.prog.funcNamed "sheaves/sheavestop.TopFaces" = some 4 by kernel_rfl).symm.trans hf) |>.symm
   obtain rfl:fn=Tryz.f4:=(Option.some.inj (Tryz.func4.symm.trans hfn)).symm
   exact⟨by kernel_rfl,fun j t ht=>by
    have hall:(Tryz.f4.params.toList.all fun u=> !Tryz.prog.wantsStandIn u)=true:=by kernel_rfl
    have:=List.all_eq_true.1 hall t (by simpa using Array.mem_of_getElem? ht)
    exact(show Tryz.prog.wantsStandIn t=false by simpa using this)⟩)
  (by kernel_rfl)
end Go.Proofs.YtinibgklgehdpaaGreatDoor
