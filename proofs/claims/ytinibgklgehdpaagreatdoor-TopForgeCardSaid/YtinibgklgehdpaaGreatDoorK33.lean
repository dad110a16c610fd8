/- A part of what the last text stands on. -/
import Derived.Test.YtinibgklgehdpaaGreatDoorK03
import Derived.Test.YtinibgklgehdpaaGreatDoorK05
import Derived.Test.YtinibgklgehdpaaGreatDoorK08
import Derived.Test.YtinibgklgehdpaaGreatDoorK10
import Derived.Test.YtinibgklgehdpaaGreatDoorK13
import Derived.Test.YtinibgklgehdpaaGreatDoorK15
import Derived.Test.YtinibgklgehdpaaGreatDoorK16
import Derived.Test.YtinibgklgehdpaaGreatDoorK31
import Derived.Test.YtinibgklgehdpaaGreatDoorK32
namespace Go.Proofs.YtinibgklgehdpaaGreatDoor
open Go.ChangeShapes Go.WideShapes Go.ChangeAt Go.RowKit Qa Qb Qc
set_option linter.all false
set_option maxHeartbeats 20000000
set_option maxRecDepth 100000
variable{w w':World}{v:Value}{A:Option Addr}{h:View}{k i j bs c:Nat}{f:Fl.Ft}{n:Fl.Nd}{α:Type}{xs:List α}{enc:α→Value}{ms:List Msg}{signs:List Sign}
theorem Zjc(v:Value)(l:List Sign)(s:Sign)(sd:Value)(w:World)(hv:RSigns w.cell? v l)(hsd:Zao w.cell? sd s.slot.digest)(hl:(l.length+1)*48≤140737488355328) :
 Calls Tryz.prog 161 #[v,.agg #[.int .i64 s.node,.int .i64 s.slot.author,.int .i64 s.slot.round,sd]] w fun e w'=>∃v',e=.returned (.tuple #[v',.int .i64 (addE l s)])∧Below w.heap.size w w'∧RSl 4 RSign 48 (View.from w'.cell? w.heap.size) v' (addL l s):=by
 have hdl:s.slot.digest.length*1≤140737488355328:=by obtain⟨_,_,_,_,_,h,_⟩:=hsd;exact h
 obtain⟨sA,sc,rfl,_⟩:=id hsd;obtain⟨A,c,rfl,_⟩:=id hv;obtain⟨_,hcap,hlen,hel⟩:=hv.at;have Hel:=Lib.hid hel;clear hel;obtain⟨F,hF⟩:∃F,Hid (Zef l=F):=⟨_,rfl⟩;obtain⟨G,hG⟩:∃G,Hid (Zkl s.node s.slot.author s.slot.round s.slot.digest.length=G):=⟨_,rfl⟩;obtain⟨h,hh⟩:∃h,Hid (Zcc l s=h):=⟨_,rfl⟩;have HE:Hid (addE l s=if F≠0 then F else G):=by show _=_;rw[addE,hF.out,hG.out]
 have HL:Hid (addL l s=if addE l s≠0 then []else if h then l else l++[s]):=by show _=_;rw[addL,hh.out]
 generalize addE l s=E at HE HL⊢;generalize addL l s=L at HL⊢;have Hl:=Lib.hid hl;clear hl
 go_enter Tryz.func161,Tryz.ntmps161
 go_wp2_with fail
 refine Za7 _ _ _ (fun W=>Calls Tryz.prog _ _ W _) (fun W hk1 hsz hbl=>?_);refine(Zfv _ l _ (hv.mono RSign.mono (Zaa hbl))).mono ?_;rintro e w1 ⟨rfl,hb1⟩;rw[hF.out];have hbl1:=hbl.trans (hb1.mono hbl.size);have hk1:=hk1.kept hb1;clear hbl hb1
 by_cases hF0:F=0
 ·subst hF0;have HE':Hid (E=G):=by show _=_;rw[HE.out];rfl
  clear HE;have g0:=hk1.cell 0;have g1:=hk1.cell 1;have g2:=hk1.cell 2;have g3:=hk1.cell 3;simp at g0 g1 g2 g3
  go_wp2_with fail
  refine(Ze6 _ _ _ _ _ _ _).mono ?_;rintro e w2 ⟨rfl,hb2⟩;rw[hG.out];have hbl2:=hbl1.trans (hb2.mono hbl1.size);have hk2:=hk1.kept hb2;clear hbl1 hk1 hb2 g0 g1 g2 g3
  by_cases hG0:G=0
  ·subst hG0;have HL':Hid (L=if h then l else l++[s]):=by show _=_;rw[HL.out,HE'.out];rfl
   clear HL;have hz2:=hbl2.size;go_wp2
   go_loopw [8,23] (fun v i wr=>∃k:Nat,k≤l.length∧i=.int .i64 k∧OwnSl 4 (RFrom w2.heap.size RSign) 72 wr w2.heap.size v (l.take k)∧Below w2.heap.size w2 wr) (fun _ i _=>l.length-(intOf i).toNat)
   case atStart=>exact⟨0,Nat.zero_le _,rfl,OwnSl.nil _ _ _ _ _,Below.refl _ _⟩
   case round =>
    obtain⟨k,hk,rfl,hown,hbl⟩:=hrel;have hbs:=hbl.size
    by_cases hlt:k<l.length
    ·obtain⟨b0,o0,d,rfl,e0,e1,e2,e3,hd⟩:=Hel.out k hlt;obtain⟨dA,dc,rfl,_⟩:=id hd;have hb02:=hbl2.trans (hbl.mono hz2);have c0:=Zaa hb02 _ _ e0;have c1:=Zaa hb02 _ _ e1;have c2:=Zaa hb02 _ _ e2;have c3:=Zaa hb02 _ _ e3;have Hlk:=Lib.hid (show(l.take k).length=k by simp;omega);have hdl2:=Lib.hid (show l[k].slot.digest.length*1≤140737488355328 by obtain⟨_,_,_,_,_,h,_⟩:=hd;exact h);clear e0 e1 e2 e3
     go_wp2_with (refine Zj 4 (Blk.new _ _ _) ?_)
     intro w3 hB3 hg3;have hbl3:Below wr.heap.size wr w3:=Zab (Zac _ _) (Zau _ (Nat.le_refl _)) hg3 (by intro k e;injection e;omega);have hown3:=hown.kept (RFrom.mono RSign.mono) hbl3;have q0:=hB3.cell 0;have q1:=hB3.cell 1;have q2:=hB3.cell 2;have q3:=hB3.cell 3;simp at q0 q1 q2 q3;have hz3:=hbl3.size;clear c0 c1 c2 c3 hg3
     go_wp2_with fail
     refine(Zko _ _ _ _ _ _ (hd.mono (Zaa (hb02.trans (hbl3.mono (by omega)))))).mono ?_;rintro e w4 ⟨d',rfl,hb4,o4⟩;have hown4:=hown3.kept (RFrom.mono RSign.mono) hb4
     have hR:RFrom w2.heap.size RSign (View.but w4.cell? u8.ownBlock) [.int .i64 l[k].node,.int .i64 l[k].slot.author,.int .i64 l[k].slot.round,d'] l[k] :=
      ⟨d',rfl,o4.reads_from (bs:=1) hdl2.out (by have:=hbl.size;have:=hbl3.size;omega) (fun g hg=>by have:=(hown3.lt g hg).2;omega)⟩
     obtain⟨A',c',rfl⟩:=o4.form;have hz4:=hb4.size;have hbl4:Below w2.heap.size w2 w4:=(hbl.trans (hbl3.mono hbs)).trans (hb4.mono (by omega));clear q0 q1 q2 q3 hd
     go_wp2_with (at_builtin;go_loud (refine Za2 (n:=140737488355328) (RFrom.mono RSign.mono) l[k] [.int .i64 l[k].node,.int .i64 l[k].slot.author,.int .i64 l[k].slot.round,.slice A' l[k].slot.digest.length c'] Zny _ _ rfl rfl rfl hown4 hbl4 (by omega) rfl rfl rfl rfl hR (Nat.le_refl _) (by rw[Hlk.out];have:=Hl.out;omega) (by rw[Hlk.out];have:=Hl.out;omega) ?_))
     intro v' w5 ho5 hbl5 _;have ho':OwnSl 4 (RFrom w2.heap.size RSign) 72 w5 w2.heap.size v' (l.take (k+1)):=by first|exact ho5|(rw[List.take_succ_eq_append_getElem hlt];exact ho5)
     clear ho5 hown hown3 hown4;go_wp2;go_roundw
     case rel=>exact⟨k+1,by omega,by go_num,ho',hbl5⟩
     case measure=>simp[intOf];omega
    ·have hkl:k=l.length:=by omega
     rw[hkl,List.take_length]at hown;have hbl3:=hbl2.trans (hbl.mono hz2);have hk3:=hk2.kept hbl;have g0:=hk3.cell 0;have g1:=hk3.cell 1;have g2:=hk3.cell 2;have g3:=hk3.cell 3;simp at g0 g1 g2 g3
     go_wp2_with fail
     refine(Zfu _ l s _ _ (hv.mono RSign.mono (Zaa hbl3)) (hsd.mono (Zaa hbl3))).mono ?_;rintro e w4 ⟨rfl,hb4⟩;rw[hh.out];have hbl4:=hbl3.trans (hb4.mono hbl3.size);have hk4:=hk3.kept hb4;have ho4:=hown.kept (RFrom.mono RSign.mono) hb4;have hb24:=hbl.trans (hb4.mono hbs);clear g0 g1 g2 g3 hk2 hk3 hbl3;cases h
     ·have HL:Hid (L=l++[s]):=HL'.out;clear HL';have g0:=hk4.cell 0;have g1:=hk4.cell 1;have g2:=hk4.cell 2;have g3:=hk4.cell 3;simp at g0 g1 g2 g3
      go_wp2_with fail
      refine(Zko _ _ _ _ _ _ (hsd.mono (Zaa hbl4))).mono ?_;rintro e w5 ⟨d',rfl,hb5,o5⟩;have ho5:=ho4.kept (RFrom.mono RSign.mono) hb5;have hbl5:=hbl4.trans (hb5.mono hbl4.size)
      have hR:RFrom w2.heap.size RSign (View.but w5.cell? u8.ownBlock) [.int .i64 s.node,.int .i64 s.slot.author,.int .i64 s.slot.round,d'] s :=
       ⟨d',rfl,o5.reads_from (bs:=1) hdl hb24.size (fun g hg=>(ho4.lt g hg).2)⟩
      obtain⟨A',c',rfl⟩:=o5.form;have hz5:=hb24.size;have hz45:=hb5.size
      go_wp2_with (at_builtin;go_loud (refine Za2 (n:=140737488355328) (W:=w2) (RFrom.mono RSign.mono) s [.int .i64 s.node,.int .i64 s.slot.author,.int .i64 s.slot.round,.slice A' s.slot.digest.length c'] Zny _ _ rfl rfl rfl ho5 (hb24.trans (hb5.mono hz5)) (by omega) rfl rfl rfl rfl hR (Nat.le_refl _) Hl.out (by have:=Hl.out;omega) ?_))
      intro v' w6 ho6 hbl6 _;have hr6:=(ho6.reads_from (bs:=48) RSign.mono (by simpa using Hl.out)).mono RSign.mono (Zbm (b':=w.heap.size) hbl2.size);have hbl7:Below w.heap.size w w6:=hbl2.trans (hbl6.mono hbl2.size);go_wp2;go_ret2;exact⟨_,by rw[HE'.out];rfl,hbl7,by rw[HL.out];exact hr6⟩
     ·have HL:Hid (L=l):=HL'.out;clear HL';have hr:=(ho4.reads_from (bs:=48) RSign.mono (by have:=Hl.out;omega)).mono RSign.mono (Zbm (b':=w.heap.size) hbl2.size);go_wp2;go_ret2;exact⟨_,by rw[HE'.out];rfl,hbl4,by rw[HL.out];exact hr⟩
  ·have HL':Hid (L=[]):=by show _=_;rw[HL.out,if_pos (by rw[HE'.out];exact hG0)]
   clear HL;go_wp2;go_ret2;exact⟨_,by rw[HE'.out];rfl,hbl2,by rw[HL'.out];exact RSl.nil _ _ _ _⟩
 ·have HE':Hid (E=F):=by show _=_;rw[HE.out,if_pos hF0]
  have HL':Hid (L=[]):=by show _=_;rw[HL.out,if_pos (by rw[HE'.out];exact hF0)]
  clear HL HE;go_wp2;go_ret2;exact⟨_,by rw[HE'.out];rfl,hbl1,by rw[HL'.out];exact RSl.nil _ _ _ _⟩
namespace Fl
abbrev All:Nat×Nat→Prop:=fun _=>True
theorem All.trans{o o' o2:Own}{w2:World}(h:Fr All o w o' w')(k:Fr All o' w' o2 w2):Fr All o w o2 w2:=h.trans k (fun _ _=>.inl trivial)
theorem Fr.all{T:Nat×Nat→Prop}{o o':Own}(h:Fr T o w o' w'):Fr All o w o' w':=h.mono (fun _ _=>trivial)
structure FtAt (o:Own) (w:World) (gf:Nat) (f:Ft):Prop where
 lim:Lim o w
 len:f.nodes.length=4
 sg:SgAt o w gf f.rogue f.signs
 node:∀i:Nat,i<4→NodeAt o w i 0 gf (1+i*15) (Zan f i)
 away:∃v,Sec w gf 62 [v]∧Row o (5,0) 19 RMsgZ 66 w v f.away
 codes:∃v,Sec w gf 63 [v]∧Row o (6,0) 1 RI 45 w v f.codes
section
variable {o o':Own} {w w':World} {gf:Nat} {f:Ft} {n:Nd} {i:Nat}
theorem FtAt.mark(h:FtAt o w gf f):o gf=some (8,0):=h.sg.mark
theorem FtAt.fr{T:Nat×Nat→Prop}(h:FtAt o w gf f)(k:Fr T o w o' w')(hT:∀j m,j<7→j≠4→¬T (j,m))(h8:¬T (8,0)):FtAt o' w' gf f:=by
 obtain⟨va,a1,a2⟩:=h.away;obtain⟨vc,c1,c2⟩:=h.codes;exact⟨k.lim,h.len,h.sg.fr k h8,fun i hi=>(h.node i hi).fr k (fun m=>hT i m (by omega) (by omega)) h8,⟨va,a1.fr k h.mark h8,a2.fr RMsgZ.mono k (hT _ _ (by decide) (by decide))⟩,⟨vc,c1.fr k h.mark h8,c2.fr RI.mono k (hT _ _ (by decide) (by decide))⟩⟩
theorem FtAt.below(h:FtAt o w gf f)(hb:Below w.heap.size w w'):FtAt o w' gf f:=h.fr (.of_below (T:=fun _=>False) h.lim hb) (fun _ _ _ _ h=>h) (fun h=>h)
theorem Zfz(hl:f.nodes.length=4)(hi:i<4)(hk:k<4)(n:Nd):Zan (Za1 f i n) k=if k=i then n else Zan f k:=by
 have:=Zdv hl (i:=(i:Int)) (k:=(k:Int)) (by omega) (by omega) n;rw[this]
 by_cases e:k=i
 ·rw[if_pos e,if_pos (by omega)]
 ·rw[if_neg e,if_neg (by omega)]
theorem Zp3(f:Ft)(i:Int)(n:Nd):(Za1 f i n).nodes.length=f.nodes.length:=by simp[Za1]
theorem FtAt.step(h:FtAt o w gf f)(hi:i<4)(k:NFr i 0 gf (1+i*15) o w o' w')(hn:NodeAt o' w' i 0 gf (1+i*15) n):FtAt o' w' gf (Za1 f i n):=by
 obtain⟨va,a1,a2⟩:=h.away;obtain⟨vc,c1,c2⟩:=h.codes;have hm:=hn.mark;refine⟨k.fr.lim,by rw[Zp3];exact h.len,h.sg.node k hm (by omega) (by omega),fun j hj=>?_,⟨va,a1.only k.only (.inr (by omega)),a2.fr RMsgZ.mono k.fr (by simp;omega)⟩,⟨vc,c1.only k.only (.inr (by omega)),c2.fr RI.mono k.fr (by simp;omega)⟩⟩;rw[Zfz h.len hi hj];split
 ·rename_i e;subst e;exact hn
 ·rename_i e;obtain⟨_,v,S1,R1⟩:=h.node j hj;refine⟨hm,v,S1.only k.only ?_,R1.fr k.fr (fun q=>?_)⟩
  ·rw[Ziz];omega
  ·intro hq
   rcases hq with hq|hq
   ·injection hq with hq _;omega
   ·exact e hq
theorem FtAt.congr{g:Ft}(h:FtAt o w gf f)(h1:g.rogue=f.rogue)(h2:g.nodes=f.nodes)(h3:g.signs=f.signs)(h4:g.away=f.away)(h5:g.codes=f.codes):FtAt o w gf g:=by
 obtain⟨a,b,c,d,e⟩:=f;obtain⟨a',b',c',d',e'⟩:=g;simp only at h1 h2 h3 h4 h5;subst h1 h2 h3 h4 h5;exact h
theorem FtAt.putSigns(h:FtAt o w gf f){l:List Sign}(hs:Sec w' gf 61 [v])(hg:w.grownBy w' (some gf))(ho:Only w w' gf 61 1)(r:RSigns (Zas o w) v l):FtAt o w' gf {f with signs:=l }:=by
 obtain⟨va,a1,a2⟩:=h.away;obtain⟨vc,c1,c2⟩:=h.codes;have k:=Zaq h.lim hg h.mark;refine⟨k.lim,h.len,⟨h.mark,h.sg.rogue.only ho (.inl (by simp)),v,hs,r.mono RSign.mono k.view⟩,fun j hj=>?_,⟨va,a1.only ho (.inr (by omega)),a2.fr RMsgZ.mono k (by simp)⟩,⟨vc,c1.only ho (.inr (by omega)),c2.fr RI.mono k (by simp)⟩⟩;obtain⟨hm,v',S1,R1⟩:=h.node j hj;exact⟨hm,v',S1.only ho (.inl (by rw[Ziz];omega)),R1.fr k (fun q hq=>by injection hq;omega)⟩
theorem FtAt.putAway(h:FtAt o w gf f){l:List Msg}(hs:Sec w' gf 62 [v])(hg:w.grownBy w' (some gf))(ho:Only w w' gf 62 1)(r:Row o (5,0) 19 RMsgZ 66 w v l):FtAt o w' gf {f with away:=l }:=by
 obtain⟨vc,c1,c2⟩:=h.codes;have k:=Zaq h.lim hg h.mark;obtain⟨_,h1,vs,h2,h3⟩:=h.sg;refine⟨k.lim,h.len,⟨h.mark,h1.only ho (.inl (by simp)),vs,h2.only ho (.inl (by simp)),h3.mono RSign.mono k.view⟩,fun j hj=>?_,⟨v,hs,r.fr RMsgZ.mono k (by simp)⟩,⟨vc,c1.only ho (.inr (by omega)),c2.fr RI.mono k (by simp)⟩⟩;obtain⟨hm,v',S1,R1⟩:=h.node j hj;exact⟨hm,v',S1.only ho (.inl (by rw[Ziz];omega)),R1.fr k (fun q hq=>by injection hq;omega)⟩
theorem FtAt.awayRow(h:FtAt o w gf f)(k:Fr (fun t=>t=(5,0)) o w o' w'):SgAt o' w' gf f.rogue f.signs∧(∀i:Nat,i<4→NodeAt o' w' i 0 gf (1+i*15) (Zan f i))∧(∃v,Sec w' gf 63 [v]∧Row o' (6,0) 1 RI 45 w' v f.codes):=by
 obtain⟨vc,c1,c2⟩:=h.codes;exact⟨h.sg.fr k (by simp),fun i hi=>(h.node i hi).fr k (fun q hq=>by injection hq;omega) (by simp),vc,c1.fr k h.mark (by simp),c2.fr RI.mono k (by simp)⟩
theorem FtAt.newAway(h:FtAt o w gf f){w2:World}(k:Fr (fun t=>t=(5,0)) o w o' w'){l:List Msg}(r:Row o' (5,0) 19 RMsgZ 66 w' v l)(hs:Sec w2 gf 62 [v])(hg:w'.grownBy w2 (some gf))(ho:Only w' w2 gf 62 1):FtAt o' w2 gf {f with away:=l }:=by
 obtain⟨s1,s2,vc,c1,c2⟩:=h.awayRow k;have hm:=s1.mark;have k2:=Zaq k.lim hg hm;obtain⟨_,h1,vs,h2,h3⟩:=s1;refine⟨k2.lim,h.len,⟨hm,h1.only ho (.inl (by simp)),vs,h2.only ho (.inl (by simp)),h3.mono RSign.mono k2.view⟩,fun j hj=>?_,⟨v,hs,r.fr RMsgZ.mono k2 (by simp)⟩,⟨vc,c1.only ho (.inr (by omega)),c2.fr RI.mono k2 (by simp)⟩⟩;obtain⟨hm,v',S1,R1⟩:=s2 j hj;exact⟨hm,v',S1.only ho (.inl (by rw[Ziz];omega)),R1.fr k2 (fun q hq=>by injection hq;omega)⟩
end
def remap(o:Own)(g:Nat×Nat→Nat×Nat):Own:=fun b=>(o b).map g
theorem Zgs(o:Own)(g:Nat×Nat→Nat×Nat)(w:World):Zas (remap o g) w=Zas o w:=by
 funext a
 unfold Zas remap;simp
theorem Lim.remap{o:Own}{w:World}{g:Nat×Nat→Nat×Nat}(h:Lim o w)(hg:∀t k,g t=(7,k)→t=(7,k)):Lim (remap o g) w:=by
 refine⟨fun b hb=>?_,fun b k hk=>?_⟩
 ·unfold Fl.remap;rw[h.none b hb];rfl
 ·unfold Fl.remap at hk;cases ho:o b with
  |none=>rw[ho]at hk;cases hk
  |some t =>
   rw[ho]at hk;injection hk with hk;have:=hg t k hk;subst this;exact h.seven b k ho
theorem Fr.remap{o:Own}{w:World}{g:Nat×Nat→Nat×Nat}(h:Lim o w)(hg:∀t k,g t=(7,k)→t=(7,k)):Fr All o w (remap o g) w:=by
 refine⟨rfl,rfl,rfl,Nat.le_refl _,h.remap hg,fun b hb hn=>⟨?_,rfl⟩,fun b t hb hob _=>⟨g t,by unfold Fl.remap;rw[hob];rfl,trivial⟩⟩;cases ho:o b with
 |none=>unfold Fl.remap;rw[ho];rfl
 |some t=>exact absurd trivial (hn t ho)
theorem Row.remap{α:Type}{sz:Nat}{R:View→List Value→α→Prop}{e:TypeId}{o:Own}{w:World}{v:Value}{xs:List α}{t:Nat×Nat}(h:Row o t sz R e w v xs)(g:Nat×Nat→Nat×Nat):Row (remap o g) (g t) sz R e w v xs:=by
 refine⟨?_,fun b hb=>by unfold Fl.remap;rw[h.mark b hb];rfl⟩;obtain⟨css,h1,h2,h3⟩:=h.own;refine⟨css,h1,h2,fun i hi=>?_⟩;obtain⟨cs,q1,q2,q3⟩:=h3 i hi;exact⟨cs,q1,q2,by rw[Zgs];exact q3⟩
def moved(me:Nat)(t:Nat×Nat):Nat×Nat:=if t.1=4 then(me,t.2)else if t.1=me then(9,t.2)else t
theorem Zkw{me:Nat}(hm:me<4):∀t k,moved me t=(7,k)→t=(7,k):=fun t k h=>by
 unfold moved at h
 split at h
 ·injection h with h _;omega
 ·split at h
  ·injection h with h _;omega
  ·exact h
theorem Zf0{me m:Nat}(h4:j≠4)(hj:j≠me):moved me (j,m)=(j,m):=by unfold moved;simp[h4,hj]
theorem NdR.moved{o:Own}{w:World}{n:Nd}{v:Vals}{me:Nat}(h:NdR o w 4 n v):NdR (remap o (moved me)) w me n v:=by
 have hh:Zas (remap o (Fl.moved me)) w=Zas o w:=Zgs _ _ _;exact⟨by rw[hh];exact h.tx,h.small,h.ba.remap _,h.di.remap _,h.ta.remap _,by rw[hh];exact h.da,by rw[hh];exact h.ow,by rw[hh];exact h.mi,h.vo.remap _,by rw[hh];exact h.tp,h.ou.remap _⟩
theorem NdR.stays{o:Own}{v:Vals}{me:Nat}(h4:j≠4)(hj:j≠me)(h:NdR o w j n v):NdR (remap o (Fl.moved me)) w j n v:=by
 have hh:Zas (remap o (Fl.moved me)) w=Zas o w:=Zgs _ _ _;have e:∀m,Fl.moved me (j,m)=(j,m):=fun m=>Zf0 h4 hj
 refine⟨by rw[hh];exact h.tx,h.small,?_,?_,?_,by rw[hh];exact h.da,by rw[hh];exact h.ow,by rw[hh];exact h.mi,?_,by rw[hh];exact h.tp,?_⟩
 ·rw[←e];exact h.ba.remap _
 ·rw[←e];exact h.di.remap _
 ·rw[←e];exact h.ta.remap _
 ·rw[←e];exact h.vo.remap _
 ·rw[←e];exact h.ou.remap _
theorem FtAt.replace{o:Own}{gf:Nat}{v:Vals}{me:Nat}(h:FtAt o w gf f)(hm:me<4)(hS:Sec w' gf (1+me*15) (ndC n v))(hg:w.grownBy w' (some gf))(ho:Only w w' gf (1+me*15) 15)(r:NdR o w 4 n v):FtAt (remap o (Fl.moved me)) w' gf (Za1 f me n):=by
 have k:=Zaq h.lim hg h.mark;have hh:Zas (remap o (Fl.moved me)) w'=Zas o w':=Zgs _ _ _
 have hmk:remap o (Fl.moved me) gf=some (8,0):=by
  unfold Fl.remap;rw[h.mark];simp only[Option.map_some];rw[Zf0 (by decide) (by omega)]
 have e5:Fl.moved me (5,0)=(5,0):=Zf0 (by decide) (by omega);have e6:Fl.moved me (6,0)=(6,0):=Zf0 (by decide) (by omega);obtain⟨va,a1,a2⟩:=h.away;obtain⟨vc,c1,c2⟩:=h.codes;obtain⟨_,h1,vs,h2,h3⟩:=h.sg;refine⟨k.lim.remap (Zkw hm),by rw[Zp3];exact h.len,⟨hmk,h1.only ho (.inl (by simp)),vs,h2.only ho (.inr (by omega)),by rw[hh];exact h3.mono RSign.mono k.view⟩,fun j hj=>?_,⟨va,a1.only ho (.inr (by omega)),?_⟩,⟨vc,c1.only ho (.inr (by omega)),?_⟩⟩
 ·rw[Zfz h.len hm hj];split
  ·rename_i e;subst e;exact⟨hmk,v,hS,(r.fr k (fun q hq=>by injection hq;omega)).moved⟩
  ·rename_i e;obtain⟨_,v',S1,R1⟩:=h.node j hj;exact⟨hmk,v',S1.only ho (by rw[Ziz];omega),NdR.stays (by omega) e (R1.fr k (fun q hq=>by injection hq;omega))⟩
 ·rw[←e5];exact(a2.fr RMsgZ.mono k (by simp)).remap _
 ·rw[←e6];exact(c2.fr RI.mono k (by simp)).remap _
theorem Zuc(me:Int)(p:List Sign×List Msg)(m:Msg)(h:p.2.length≤400):(Zc6 me p m).1.length≤p.1.length+1∧(Zc6 me p m).2.length≤400:=by
 have ha:∀s,(addL p.1 s).length≤p.1.length+1:=fun s=>by
  unfold addL;split
  ·simp
  ·split
   ·omega
   ·simp
 unfold Zc6;refine⟨?_,?_⟩
 ·simp only;split
  ·exact ha _
  ·omega
 ·simp only;split
  ·simp;omega
  ·exact h
theorem Zwv(i gf:Nat)(f:Ft)(o:Own)(w:World)(hi:i<4)(hF:FtAt o w gf f)(hT:Tabs (Zas o w))(htm:Zba (Zan f i).tl (Zan f i).ty=true)(hout:(Zan f i).out.length≤400)(haw:f.away.length≤400)(hsg:f.signs.length≤1000000000) :
 Calls Tryz.prog 115 #[.pointer (some ⟨gf,0,none⟩),.pointer (some ⟨gf,1+i*15,none⟩)] w fun e w'=>e=.returned (.tuple #[])∧∃o',Fr All o w o' w'∧FtAt o' w' gf (sync f i):=by
 obtain⟨n,hn⟩:∃n,Hid (Zan f i=n):=⟨_,rfl⟩;obtain⟨QR,hQR⟩:∃q,Hid (sync f i=q):=⟨_,rfl⟩;have N0:=hF.node i hi;rw[hn.out]at N0 htm hout;rw[hQR.out];have Hsg:=Lib.hid hsg;have Haw:=Lib.hid haw;have Hout:=Lib.hid hout;have Htm:=Lib.hid htm;clear hsg haw hout htm;obtain⟨off,hoff⟩:∃off,Hid (1+i*15=off):=⟨_,rfl⟩;rw[hoff.out]at N0⊢;obtain⟨hmk,⟨vtx,vba,vdi,vta,vda,vow,vmi,vvo,vtp,vou⟩,S0,R0⟩:=id N0;have l0:=hF.lim;have s11:=S0.nd11;have s12:=S0.nd12;have s13:=S0.nd13;simp only at s11 s12 s13;have rtp:Zao w.cell? vtp n.tl:=R0.tp.mono (Zag _ _);obtain⟨tpA,tpc,htp,_⟩:=id rtp;have htp:vtp=.slice tpA n.tl.length tpc:=htp;subst htp;clear S0 R0 N0
 go_enter Tryz.func115,Tryz.ntmps115
 go_wp2_with fail
 refine(Zwu n.ty _ n.tl w rtp Htm.out).mono ?_;rintro e w1 ⟨d,rfl,hb1,od⟩;obtain⟨dA,dc,rfl⟩:=od.form;have F1:=hF.below hb1;have l1:=F1.lim;have rd:=(od.from_ (bs:=1) (by have:=Htm.out;simp[Zba]at this;omega) (Nat.le_refl _)).mono (Zby l0);have N1:=F1.node i hi;rw[hn.out,hoff.out]at N1;obtain⟨-,⟨ytx,yba,ydi,yta,yda,yow,ymi,yvo,ytp,you⟩,S1,R1⟩:=id N1
 go_wp2_with (refine Sec.store S1 (i:=11) [.slice dA n.tl.length dc,.int .i64 n.tl.length] (show 11+2≤15 by decide) rfl rfl rfl rfl (by kernel_rfl) rfl rfl ?_)
 intro w2 S2 hg2 h2;have f2:=Zaq l1 hg2 hmk;have R2:=(R1.fr f2 (fun k e=>by injection e;omega)).setTp (y:=(n.tl.length:Int)) (rd.mono f2.view);have S2:=S2.putTp (xs:=n.tl);have rou:Row o (i,5) 19 RMsgZ 66 w2 you n.out:=R2.ou;have s13':=S2.nd13;simp only at s13';obtain⟨ouA,ouc,hyou⟩:=rou.form;have hyou:you=.slice ouA n.out.length ouc:=hyou;subst hyou;have K2:NFr i 0 gf off o w1 o w2:=(NFr.refl l1).store hmk hg2 h2 (show 11+2≤15 by decide);obtain⟨n1,hn1⟩:∃n1:Nd,Hid (n1={ n with tl:=n.tl,ty:=(n.tl.length:Int) }):=⟨_,rfl⟩;have N2:NodeAt o w2 i 0 gf off n1:=by rw[hn1.out];exact⟨hmk,_,S2,R2⟩
 rw[←hoff.out]at K2 N2;have F2:=F1.step hi K2 N2;have A2:Fr All o w o w2:=All.trans (Fr.of_below l0 hb1) K2.fr.all;have T2:=(hT.mono (Zae l0 hb1)).mono K2.fr.view;have hou1:Hid (n1.out=n.out):=by show _=_;rw[hn1.out]
 have hme1:Hid (n1.me=n.me):=by show _=_;rw[hn1.out]
 obtain⟨G,hG⟩:∃G,Hid (Za1 f i n1=G):=⟨_,rfl⟩;have hGi:Hid (Zan G i=n1):=by show _=_;rw[←hG.out,Zfz hF.len hi hi,if_pos rfl]
 have hGl:G.nodes.length=4:=by rw[←hG.out,Zp3];exact hF.len
 have hGs:Hid (G.signs=f.signs):=by show _=_;rw[←hG.out];rfl
 have hGa:Hid (G.away=f.away):=by show _=_;rw[←hG.out];rfl
 rw[hG.out]at F2;have F2:FtAt o w2 gf {G with signs:=f.signs,away:=f.away }:=F2.congr rfl rfl hGs.out.symm hGa.out.symm rfl
 have HR:Hid (∀p,p=n.out.foldl (Zc6 n.me) (f.signs,f.away)→QR={ Za1 G i {n1 with out:=[] } with signs:=p.1,away:=p.2 }):=by
  intro p hp;rw[←hQR.out];unfold sync;simp only;rw[hn.out,←hp]
  have e1:syncN n={ n1 with out:=[] }:=by
   rw[hn1.out];unfold syncN;rw[Htm.out];rfl
  rw[e1,←hG.out];unfold Za1;simp
 clear hG hb1 od rd rtp F1 l1 N1 S1 R1 S2 R2 hg2 h2 f2 K2 N2 s11 s12 s13 hQR Htm
 go_wp2_with fail
 go_loopw [5,6,7,24,30,62] (fun _ _ _ j _ _ wr=>∃(k:Nat) (o':Own) (p:List Sign×List Msg),k≤n.out.length∧j=.int .i64 k∧Hid (p=(n.out.take k).foldl (Zc6 n.me) (f.signs,f.away))∧Fr All o w o' wr∧FtAt o' wr gf {G with signs:=p.1,away:=p.2 }∧Row o' (i,5) 19 RMsgZ 66 wr (.slice ouA n.out.length ouc) n.out∧Tabs (Zas o' wr)∧p.1.length≤1000000000+k∧p.2.length≤400) (fun _ _ _ j _ _ _=>n.out.length-(intOf j).toNat)
 case atStart=>exact⟨0,o,(f.signs,f.away),Nat.zero_le _,rfl,rfl,A2,F2,rou,T2,Nat.le_trans Hsg.out (Nat.le_refl _),Haw.out⟩
 case round =>
  obtain⟨k,o1,p,hk1,rfl,hp,A1,F1,rou1,T1,hp1,hp2⟩:=hrel;have hout4:=Hout.out
  by_cases hlt:k<n.out.length
  ·have hltI:(k:Int)<n.out.length:=by omega
   have hrd:=rou1.ownSl.reads (bs:=264) (fun _ _ _ _ hx _=>hx) (by have:=Hout.out;omega);obtain⟨A9,c9,he9,-,-,-,-,h59⟩:=hrd;injection he9 with he1 _ he3;subst he1 he3;obtain⟨bb,bo,hA,hcc⟩:=h59 (by omega);subst hA;obtain⟨cs9,-,hcell,⟨vt,vb,vp,vd,cb,cp,cv,rfl,rm⟩,hts⟩:=hcc k hlt;have hst:=Lib.hid (show(n.out.take (k+1)).foldl (Zc6 n.me) (f.signs,f.away)=Zc6 n.me p n.out[k] by rw[List.take_succ_eq_append_getElem hlt,List.foldl_append,←hp.out];rfl);have hln:=Zuc n.me p n.out[k] hp2;generalize n.out[k]=m at *;have rm0:=rm;obtain⟨⟨tA,tc,rfl⟩,⟨bA,bc,rfl⟩,⟨pA,pc,rfl⟩,⟨dA',dc',rfl⟩,⟨cA,cc,rfl⟩,⟨qA,qc,rfl⟩,⟨vA,vc,rfl⟩⟩:=rm0.forms;clear rm0 h59 hcc
   have hcs:∀j v,(#[.int .i64 m.src,.int .i64 m.dst,.int .i64 m.kind,.int .i64 m.bat.author,.int .i64 m.bat.number,.slice tA m.bat.txs.length tc,.int .i64 m.hdr.author,.int .i64 m.hdr.round,.slice bA m.hdr.batches.length bc,.slice pA m.hdr.parents.length pc,.int .i64 m.slt.author,.int .i64 m.slt.round,.slice dA' m.slt.digest.length dc',.int .i64 m.crt.hdr.author,.int .i64 m.crt.hdr.round,.slice cA m.crt.hdr.batches.length cc,.slice qA m.crt.hdr.parents.length qc,.slice vA m.crt.voters.length vc,.int .i64 m.round]:Array Value).toList[j]?=some v→wr.cell? ((⟨bb,bo+k*19,none⟩:Addr).add j)=some v:=fun j v hj=>by
    have hj':j<19:=(List.getElem?_eq_some_iff.1 hj).1;rw[Zbs];exact(hcell j hj').trans hj
   have Hone:Hid (((#[.int .i64 m.src,.int .i64 m.dst,.int .i64 m.kind,.int .i64 m.bat.author,.int .i64 m.bat.number,.slice tA m.bat.txs.length tc,.int .i64 m.hdr.author,.int .i64 m.hdr.round,.slice bA m.hdr.batches.length bc,.slice pA m.hdr.parents.length pc,.int .i64 m.slt.author,.int .i64 m.slt.round,.slice dA' m.slt.digest.length dc',.int .i64 m.crt.hdr.author,.int .i64 m.crt.hdr.round,.slice cA m.crt.hdr.batches.length cc,.slice qA m.crt.hdr.parents.length qc,.slice vA m.crt.voters.length vc,.int .i64 m.round]:Array Value).toList.all fun u=>u.oneCell')=true):=rfl;clear hcell;have hn:=Blk.new wr 66 #[.int .i64 0,.int .i64 0,.int .i64 0,.int .i64 0,.int .i64 0,.slice none 0 0,.int .i64 0,.int .i64 0,.slice none 0 0,.slice none 0 0,.int .i64 0,.int .i64 0,.slice none 0 0,.int .i64 0,.int .i64 0,.slice none 0 0,.slice none 0 0,.slice none 0 0,.int .i64 0];have hb0:=Zac wr (.cells #[.int .i64 0,.int .i64 0,.int .i64 0,.int .i64 0,.int .i64 0,.slice none 0 0,.int .i64 0,.int .i64 0,.slice none 0 0,.slice none 0 0,.int .i64 0,.int .i64 0,.slice none 0 0,.int .i64 0,.int .i64 0,.slice none 0 0,.slice none 0 0,.slice none 0 0,.int .i64 0] 66)
   go_wp2_with (first|(refine Zbd (n:=19) (#[.int .i64 m.src,.int .i64 m.dst,.int .i64 m.kind,.int .i64 m.bat.author,.int .i64 m.bat.number,.slice tA m.bat.txs.length tc,.int .i64 m.hdr.author,.int .i64 m.hdr.round,.slice bA m.hdr.batches.length bc,.slice pA m.hdr.parents.length pc,.int .i64 m.slt.author,.int .i64 m.slt.round,.slice dA' m.slt.digest.length dc',.int .i64 m.crt.hdr.author,.int .i64 m.crt.hdr.round,.slice cA m.crt.hdr.batches.length cc,.slice qA m.crt.hdr.parents.length qc,.slice vA m.crt.voters.length vc,.int .i64 m.round]:Array Value).toList rfl rfl rfl rfl (by kernel_rfl) (by kernel_rfl) (by kernel_rfl) hcs ?_)|(refine Zj 19 hn ?_))
   intro W2 hX hgX;have hbX:Below wr.heap.size wr W2:=Zab hb0 hb0.size hgX (by intro k e;injection e;omega);clear hn hb0 hgX
   go_upto_region 4 with fail
   have l1:=F1.lim;have F2':=F1.below hbX;have l2:=F2'.lim;have A2':=All.trans A1 (Fr.of_below (T:=All) l1 hbX);have v2:=Zae l1 hbX;have rm2:=rm.mono v2;have T2':=T1.mono v2;have rou2:=rou1.fr RMsgZ.mono (Fr.of_below (T:=fun _=>False) l1 hbX) (fun h=>h);have hx0:=l1.none wr.heap.size (Nat.le_refl _);obtain⟨q,hq'⟩:∃q,Hid ((Zc6 n.me p m).1=q):=⟨_,rfl⟩;have hqq:=hq';clear hcs A1 F1 rou1 T1 rm;have e2:=hX.cell 2;simp at e2;obtain⟨K,hK⟩:∃K,Hid (m.kind=K):=⟨_,rfl⟩;rw[hK.out]at e2;have hsO:Hid (q=match Zml n.me m with|some s=>addL p.1 s|none=>p.1):=by show _=_;rw[←hqq.out];rfl
   clear hqq
   go_upto_block 2 with fail
   go_cut [6,7,30,62] (fun _ _ _ _ w'=>∃o',Fr All o w o' w'∧FtAt o' w' gf {G with signs:=q,away:=p.2 }∧Row o' (i,5) 19 RMsgZ 66 w' (.slice (some ⟨bb,bo,none⟩) n.out.length ouc) n.out∧Blk w' wr.heap.size 66 #[.int .i64 m.src,.int .i64 m.dst,.int .i64 m.kind,.int .i64 m.bat.author,.int .i64 m.bat.number,.slice tA m.bat.txs.length tc,.int .i64 m.hdr.author,.int .i64 m.hdr.round,.slice bA m.hdr.batches.length bc,.slice pA m.hdr.parents.length pc,.int .i64 m.slt.author,.int .i64 m.slt.round,.slice dA' m.slt.digest.length dc',.int .i64 m.crt.hdr.author,.int .i64 m.crt.hdr.round,.slice cA m.crt.hdr.batches.length cc,.slice qA m.crt.hdr.parents.length qc,.slice vA m.crt.voters.length vc,.int .i64 m.round]∧o' wr.heap.size=none∧VLe (Zas o1 W2) (Zas o' w'))
   case first =>
    by_cases k2:K=2
    ·have kb:(K==2)=true:=by simpa using k2
     have hq:Hid (q=addL p.1 ⟨n.me,⟨m.hdr.author,m.hdr.round,hdR m.hdr⟩⟩):=by
      show _=_;rw[hsO.out];unfold Zml;rw[if_pos (by rw[hK.out];exact k2)]
     have c6:=hX.cell 6;have c7:=hX.cell 7;have c8:=hX.cell 8;have c9:=hX.cell 9;simp at c6 c7 c8 c9;clear k2 hsO
     go_wp2_with fail
     refine(Zbx m.hdr.author m.hdr.round _ _ m.hdr.batches m.hdr.parents W2 (rm2.bats.mono RDig.mono (Zag _ _)) (rm2.pars.mono RDig.mono (Zag _ _)) (T2'.mono (Zag _ _))).mono ?_;rintro e W5 ⟨d5,rfl,hb5,rd5⟩;obtain⟨d5A,d5c,rfl,hf5⟩:=id rd5;clear hf5;have hX5:=hX.kept hb5;have F2':=F2'.below hb5;have l5:=F2'.lim;have A5:=All.trans A2' (Fr.of_below (T:=All) l2 hb5);have rou5:=rou2.fr RMsgZ.mono (Fr.of_below (T:=fun _=>False) l2 hb5) (fun h=>h);have rd5':Zao W5.cell? _ (hdR m.hdr):=rd5.mono (View.from_le _ _)
     go_upto_region 7 with fail
     obtain⟨_,_,vs,g61,rs⟩:=id F2'.sg;have z61:=g61.cell (j:=0) (show 0<1 by decide);simp at z61;obtain⟨_,v5,S5,_⟩:=id (F2'.node i hi);have z0:=S5.nd0;rw[show Zan {G with signs:=p.1,away:=p.2 } i=n1 from hGi.out,hme1.out,hoff.out]at z0;obtain⟨vsA,vsc,rfl,hfvs⟩:=id rs;clear S5 hfvs;refine Zt (fun w'=>Below W5.heap.size W5 w') (fun w'=>Below W5.heap.size W5 w') [21,24] (.q 0 (.q 1 (.q 2 (.q 3 (.q 4 (.q 5 (.q 6 (.q 7 (.q 8 (.q 9 (.q 10 (.q 11 (.q 12 (.q 13 (.q 14 (.q 15 (.q 16 (.q 17 (.l 18 (.q 19 (.q 20 (.qc 21 (.q 22 (.q 23 (.l 24 .nil))))))))))))))))))))))))) ?_ ?_
     ·exact⟨Zad _,Zad _⟩
     intro W6 hS0 hS
     repeat((first|refine pq (h:=⟨_,fun w' hS=>by(have x:=hX5.kept hS;have y0:=Zaa hS _ _ z0;have y1:=Zaa hS _ _ z61;have c6:=x.cell 6;have c7:=x.cell 7;have c10:=x.cell 10;have c11:=x.cell 11;have c12:=x.cell 12;simp at c6 c7 c10 c11 c12;go_simp;exact rfl),?_⟩)|refine Zq ?_);simp only[sx])
     refine Zd fun K hK=>?_
     try simp only[sy]
     go_simp;refine(Zjc _ p.1 ⟨n.me,⟨m.hdr.author,m.hdr.round,hdR m.hdr⟩⟩ _ _ ((rs.mono RSign.mono (Zag _ _)).mono RSign.mono (Zaa hS0)) (rd5'.mono (Zaa hS0)) (by omega)).mono ?_;rintro e W7 ⟨v7,rfl,hb7,rs7⟩;have hS7:=hS0.trans (hb7.mono hS0.size);obtain⟨v7A,v7c,rfl,hf7⟩:=id rs7;clear hf7;refine hK.out _ _ (hS7) fun hS=>?_
     clear hK K
     try simp only[sx]
     repeat(refine Zq ?_;simp only[sx])
     refine Zc fun K hK=>?_
     try simp only[sy]
     have F7:=F2'.below hS7;obtain⟨_,_,vs8,g618,_⟩:=id F7.sg;refine Sec.wp_store g618 (i:=0) [.slice v7A (addL p.1 ⟨n.me,⟨m.hdr.author,m.hdr.round,hdR m.hdr⟩⟩).length v7c] (show 0+1≤1 by decide) rfl rfl rfl (by kernel_rfl) rfl rfl ?_;intro W8 S8 hg8 h8;have F8:=F7.putSigns S8 hg8 h8 (rs7.mono RSign.mono ((Zbm (b':=W5.heap.size) hS0.size).trans (Zby l5)));have k8:=Zaq F7.lim hg8 F7.mark;have X8:=Za3 (hX5.kept hS7) k8 hx0;have rou8:=(rou5.fr RMsgZ.mono (Fr.of_below (T:=fun _=>False) l5 hS7) (fun h=>h)).fr RMsgZ.mono k8 (by simp);have v8:=(Zae l5 hS7).trans k8.view;have A8:=All.trans A5 (All.trans (Fr.of_below (T:=All) l5 hS7) k8.all);refine hK.out _ _ ?_;clear hK K
     try simp only[sx]
     refine Zah ?_
     go_wp2_with fail
     go_meet;exact⟨o1,A8,by rw[hq.out];exact F8,rou8,X8,hx0,(Zae l2 hb5).trans v8⟩
    ·have kb:(K==2)=false:=by simpa using k2
     by_cases k3:K=3
     ·have kb3:(K==3)=true:=by simpa using k3
      have hq:Hid (q=addL p.1 ⟨n.me,m.slt⟩):=by
       show _=_;rw[hsO.out];unfold Zml;rw[if_neg (by rw[hK.out];exact k2),if_pos (by rw[hK.out];exact k3)]
      have hX5:=hX;have l5:=l2;have A5:=A2';have rou5:=rou2;have rd5':Zao W2.cell? _ m.slt.digest:=rm2.dig.mono (Zag _ _);obtain⟨W5,hW5⟩:∃x:World,x=W2:=⟨_,rfl⟩;subst hW5;clear k2 k3 hsO
      go_upto_region 9 with fail
      obtain⟨_,_,vs,g61,rs⟩:=id F2'.sg;have z61:=g61.cell (j:=0) (show 0<1 by decide);simp at z61;obtain⟨_,v5,S5,_⟩:=id (F2'.node i hi);have z0:=S5.nd0;rw[show Zan {G with signs:=p.1,away:=p.2 } i=n1 from hGi.out,hme1.out,hoff.out]at z0;obtain⟨vsA,vsc,rfl,hfvs⟩:=id rs;clear S5 hfvs;refine Zt (fun w'=>Below W5.heap.size W5 w') (fun w'=>Below W5.heap.size W5 w') [15,18] (.q 0 (.q 1 (.q 2 (.q 3 (.q 4 (.q 5 (.q 6 (.q 7 (.q 8 (.q 9 (.q 10 (.q 11 (.l 12 (.q 13 (.q 14 (.qc 15 (.q 16 (.q 17 (.l 18 .nil))))))))))))))))))) ?_ ?_
      ·exact⟨Zad _,Zad _⟩
      intro W6 hS0 hS
      repeat((first|refine pq (h:=⟨_,fun w' hS=>by(have x:=hX5.kept hS;have y0:=Zaa hS _ _ z0;have y1:=Zaa hS _ _ z61;have c6:=x.cell 6;have c7:=x.cell 7;have c10:=x.cell 10;have c11:=x.cell 11;have c12:=x.cell 12;simp at c6 c7 c10 c11 c12;go_simp;exact rfl),?_⟩)|refine Zq ?_);simp only[sx])
      refine Zd fun K hK=>?_
      try simp only[sy]
      go_simp;refine(Zjc _ p.1 ⟨n.me,m.slt⟩ _ _ ((rs.mono RSign.mono (Zag _ _)).mono RSign.mono (Zaa hS0)) (rd5'.mono (Zaa hS0)) (by omega)).mono ?_;rintro e W7 ⟨v7,rfl,hb7,rs7⟩;have hS7:=hS0.trans (hb7.mono hS0.size);obtain⟨v7A,v7c,rfl,hf7⟩:=id rs7;clear hf7;refine hK.out _ _ (hS7) fun hS=>?_
      clear hK K
      try simp only[sx]
      repeat(refine Zq ?_;simp only[sx])
      refine Zc fun K hK=>?_
      try simp only[sy]
      have F7:=F2'.below hS7;obtain⟨_,_,vs8,g618,_⟩:=id F7.sg;refine Sec.wp_store g618 (i:=0) [.slice v7A (addL p.1 ⟨n.me,m.slt⟩).length v7c] (show 0+1≤1 by decide) rfl rfl rfl (by kernel_rfl) rfl rfl ?_;intro W8 S8 hg8 h8;have F8:=F7.putSigns S8 hg8 h8 (rs7.mono RSign.mono ((Zbm (b':=W5.heap.size) hS0.size).trans (Zby l5)));have k8:=Zaq F7.lim hg8 F7.mark;have X8:=Za3 (hX5.kept hS7) k8 hx0;have rou8:=(rou5.fr RMsgZ.mono (Fr.of_below (T:=fun _=>False) l5 hS7) (fun h=>h)).fr RMsgZ.mono k8 (by simp);have v8:=(Zae l5 hS7).trans k8.view;have A8:=All.trans A5 (All.trans (Fr.of_below (T:=All) l5 hS7) k8.all);refine hK.out _ _ ?_;clear hK K
      try simp only[sx]
      refine Zah ?_
      go_wp2_with fail
      go_meet;exact⟨o1,A8,by rw[hq.out];exact F8,rou8,X8,hx0,v8⟩
     ·have kb3:(K==3)=false:=by simpa using k3
      have hq:Hid (q=p.1):=by
       show _=_;rw[hsO.out];unfold Zml;rw[if_neg (by rw[hK.out];exact k2),if_neg (by rw[hK.out];exact k3)]
      clear k2 k3 hsO
      go_wp2_with fail
      go_meet;exact⟨o1,A2',by rw[hq.out];exact F2',rou2,hX,hx0,fun a v h=>h⟩
   case rest =>
    obtain⟨o3,A3,F3,rou3,hX3,hx3,v3⟩:=hcut;obtain⟨W3,hW3⟩:∃W3:World,W3=wc:=⟨_,rfl⟩;subst hW3;have l3:=F3.lim;have T3:=T2'.mono v3;have rm3:=rm2.mono v3;obtain⟨va,g62,ra⟩:=id F3.away;have z62:=g62.cell (j:=0) (show 0<1 by decide);simp at z62;obtain⟨vaA,vac,hva⟩:=ra.form;have hva:va=.slice vaA p.2.length vac:=hva;subst hva;clear A2' F2' l2 rou2 v2 rm2 T2' hX hx0 hsO e2
    by_cases h4:p.2.length<400
    rotate_left
    ·have h4I:¬(p.2.length:Int)<400:=by omega
     have hp2':Hid ((q,p.2)=(n.out.take (k+1)).foldl (Zc6 n.me) (f.signs,f.away)):=by
      show _=_;rw[hst.out,←hq'.out];unfold Zc6;simp only;rw[if_neg h4]
     have hql:q.length≤1000000000+(k+1):=by rw[←hq'.out];omega
     clear hst hq' h4;go_wp2;go_roundw
     case rel=>exact⟨k+1,o3,(q,p.2),by omega,by go_num,hp2',A3,F3,rou3,T3,by omega,hp2⟩
     case measure=>simp[intOf]<;>omega
    have h4I:(p.2.length:Int)<400:=by omega
    have hp2':Hid ((q,p.2++[m])=(n.out.take (k+1)).foldl (Zc6 n.me) (f.signs,f.away)):=by
     show _=_;rw[hst.out,←hq'.out];unfold Zc6;simp only;rw[if_pos h4]
    have hql:q.length≤1000000000+(k+1):=by rw[←hq'.out];omega
    clear hst hq'
    go_upto_region 11 with fail
    refine Zt (fun w'=>Below W3.heap.size W3 w') (fun w'=>Blk w' wr.heap.size 66 #[.int .i64 m.src,.int .i64 m.dst,.int .i64 m.kind,.int .i64 m.bat.author,.int .i64 m.bat.number,.slice tA m.bat.txs.length tc,.int .i64 m.hdr.author,.int .i64 m.hdr.round,.slice bA m.hdr.batches.length bc,.slice pA m.hdr.parents.length pc,.int .i64 m.slt.author,.int .i64 m.slt.round,.slice dA' m.slt.digest.length dc',.int .i64 m.crt.hdr.author,.int .i64 m.crt.hdr.round,.slice cA m.crt.hdr.batches.length cc,.slice qA m.crt.hdr.parents.length qc,.slice vA m.crt.voters.length vc,.int .i64 m.round]∧w'.cell? ⟨gf,62,none⟩=some (.slice vaA p.2.length vac)) [10] (.q 0 (.q 1 (.q 2 (.q 3 (.q 4 (.q 5 (.l 6 (.l 7 (.q 8 (.q 9 (.l 10 .nil))))))))))) ?_ ?_
    ·exact⟨Zad _,hX3.drew,z62⟩
    intro W4 hS0 hS;have F4:=F3.below hS0;have l4:=F4.lim;have v4:=Zae l3 hS0;have rm4:=rm3.mono v4;have A4:=All.trans A3 (Fr.of_below (T:=All) l3 hS0);have rou4:=rou3.fr RMsgZ.mono (Fr.of_below (T:=fun _=>False) l3 hS0) (fun h=>h);have ra4:Row o3 (5,0) 19 RMsgZ 66 W4 (.slice vaA p.2.length vac) p.2:=ra.fr RMsgZ.mono (Fr.of_below (T:=fun _=>False) l3 hS0) (fun h=>h);have hk4:=hS.1
    repeat((first|refine pq (h:=⟨_,fun w' hS=>by(have h0:=hS.2;go_simp;exact rfl),?_⟩)|refine Zq ?_);simp only[sx])
    refine pl_q (by assumption) rfl rfl ?_;apply Exists.intro;refine⟨fun w' hS=>Zfj 66 _ rfl _ rfl _ _ (0,0) _ (hS.1) Tryz.underlying66 rfl (by kernel_rfl),?_⟩;simp only[List.getElem_toArray,List.getElem_cons_zero,List.getElem_cons_succ,Act.put,List.setIfInBounds_toArray,List.set_cons_zero,List.set_cons_succ]
    repeat(refine Zq ?_;simp only[sx])
    refine Zd fun K hK=>?_
    try simp only[sy]
    go_simp;have hb5:=Zac W4 (.cells #[.int .i64 m.src,.int .i64 m.dst,.int .i64 m.kind,.int .i64 m.bat.author,.int .i64 m.bat.number,.slice tA m.bat.txs.length tc,.int .i64 m.hdr.author,.int .i64 m.hdr.round,.slice bA m.hdr.batches.length bc,.slice pA m.hdr.parents.length pc,.int .i64 m.slt.author,.int .i64 m.slt.round,.slice dA' m.slt.digest.length dc',.int .i64 m.crt.hdr.author,.int .i64 m.crt.hdr.round,.slice cA m.crt.hdr.batches.length cc,.slice qA m.crt.hdr.parents.length qc,.slice vA m.crt.voters.length vc,.int .i64 m.round] 66);refine hK.out _ _ (⟨hS.1.kept hb5,Zaa hb5 _ _ hS.2⟩) fun hS=>?_
    clear hK K
    try simp only[sx]
    repeat(refine Zq ?_;simp only[sx])
    refine Zd fun K hK=>?_
    try simp only[sy]
    refine Zce (n:=140737488355328) RMsgZ.mono m [.int .i64 m.src,.int .i64 m.dst,.int .i64 m.kind,.int .i64 m.bat.author,.int .i64 m.bat.number,.slice tA m.bat.txs.length tc,.int .i64 m.hdr.author,.int .i64 m.hdr.round,.slice bA m.hdr.batches.length bc,.slice pA m.hdr.parents.length pc,.int .i64 m.slt.author,.int .i64 m.slt.round,.slice dA' m.slt.digest.length dc',.int .i64 m.crt.hdr.author,.int .i64 m.crt.hdr.round,.slice cA m.crt.hdr.batches.length cc,.slice qA m.crt.hdr.parents.length qc,.slice vA m.crt.voters.length vc,.int .i64 m.round] Zi6 _ _ rfl rfl ra4 l4 (by decide) rfl rfl rfl Hone.out ⟨⟨_,_,_,_,_,_,_,rfl,rm4.txs,rm4.bats,rm4.pars,rm4.dig,rm4.cbats,rm4.cpars,rm4.vots⟩,hts⟩ (Nat.le_refl _) (by omega) (by omega) (fun v' w5 o5 r5 f5=>?_);obtain⟨A5,c5,rfl⟩:=r5.form;have hk5:=Za3 hk4 f5 hx3;have g624:=g62.fr (.of_below (T:=fun _=>False) l3 hS0) F3.mark (fun h=>h);have g625:=g624.fr f5 F4.mark (by simp);have z625:=g625.cell (j:=0) (show 0<1 by decide);simp at z625;have rou5:=rou4.fr RMsgZ.mono f5 (by simp);have T5:=(T3.mono v4).mono f5.view;have A5':=All.trans A4 f5.all;have m5:=Zb5 F4.sg.rogue.lt f5 F4.mark (by simp);have l5:=f5.lim;refine hK.out _ _ (⟨hk5,z625⟩) fun hS=>?_
    clear hK K
    try simp only[sx]
    repeat(refine Zq ?_;simp only[sx])
    refine Zc fun K hK=>?_
    try simp only[sy]
    refine Sec.wp_store g625 (i:=0) [.slice A5 (p.2++[m]).length c5] (show 0+1≤1 by decide) rfl rfl rfl (by kernel_rfl) rfl rfl ?_;intro w6 S6 hg6 h6;have F6:=F4.newAway f5 r5 S6 hg6 h6;have k6:=Zaq l5 hg6 m5;have A6:=All.trans A5' k6.all;have rou6:=rou5.fr RMsgZ.mono k6 (by simp);have T6:=T5.mono k6.view;have F6:FtAt o5 w6 gf {G with signs:=q,away:=p.2++[m] }:=F6;clear rou5 T5 A5' r5 F4 rou4 ra4 rm4 A4;refine hK.out _ _ ?_;clear hK K
    try simp only[sx]
    repeat(refine Zq ?_;simp only[sx])
    refine Zah ?_;go_wp2;go_roundw
    case rel=>exact⟨k+1,o5,(q,p.2++[m]),by omega,by go_num,hp2',A6,F6,rou6,T6,by omega,by simp;omega⟩
    case measure=>simp[intOf]<;>omega
  ·have hkl:k=n.out.length:=by omega
   have hpp:Hid (p=n.out.foldl (Zc6 n.me) (f.signs,f.away)):=by
    show _=_;rw[hp.out,hkl,List.take_length]
   have hltI:¬(k:Int)<n.out.length:=by omega
   clear hkl hp;have N1:=F1.node i hi;rw[show Zan {G with signs:=p.1,away:=p.2 } i=n1 from hGi.out,hoff.out]at N1;obtain⟨hm1,⟨xtx,xba,xdi,xta,xda,xow,xmi,xvo,xtp,xou⟩,S1,R1⟩:=id N1;have l1:=F1.lim
   go_wp2_with (refine Sec.store S1 (i:=13) [.slice none 0 0] (show 13+1≤15 by decide) rfl rfl rfl rfl (by kernel_rfl) rfl rfl ?_)
   intro w3 S3 hg3 h3;have f3:=Zaq l1 hg3 hm1;have R3:=(R1.fr f3 (fun k e=>by injection e;omega)).setOu (Row.nil _ _ _ _ _ _);have S3:=S3.putOu (xs:=[]);have K3:NFr i 0 gf off o1 wr o1 w3:=(NFr.refl l1).store hm1 hg3 h3 (show 13+1≤15 by decide);have N3:NodeAt o1 w3 i 0 gf off {n1 with out:=[] }:=⟨hm1,_,S3,R3⟩;rw[←hoff.out]at K3 N3;have F3:=F1.step hi K3 N3;have A3:=All.trans A1 K3.fr.all;have hres:FtAt o1 w3 gf QR:=by rw[HR.out p hpp.out];exact F3
   clear F3 N3 R3 S3 S1 R1;go_wp2;go_end0;exact⟨rfl,o1,A3,hres⟩
structure CrFit (n:Nd):Prop where
 table:n.table.length≤400
 dd:n.digs.length=n.bats.length
 bats:n.bats.length≤800
 nx:1≤n.nx∧n.nx≤1048577
def cr0(me:Int)(tl:List UInt8)(ty:Int):Nd:={ fresh me with up:=false,tl:=tl,ty:=ty }
theorem Zth(n:Nd)(me keep:Int):crash n me keep=(rcvM (crL n.tl n.ty keep) (crA n.tl n.ty keep)).foldl recS (cr0 me (rcvD (crL n.tl n.ty keep) (crA n.tl n.ty keep)) (rcvY (crL n.tl n.ty keep) (crA n.tl n.ty keep))):=rfl
theorem Zvu{rogue k:Int}(h:NI signs rogue k n ms j){keep:Int}(hk:0≤keep)(tl:List UInt8)(ty:Int) :
 (∀q,CrFit (((rcvM (crL n.tl n.ty keep) (crA n.tl n.ty keep)).take q).foldl recS (cr0 k tl ty)))∧(∀m∈rcvM (crL n.tl n.ty keep) (crA n.tl n.ty keep),m.kind=1→(1≤m.bat.number∧m.bat.number≤1048576)∧∀s∈m.bat.txs,s.size≤20):=by
 obtain⟨i,hi,e,_⟩:=Zrw h hk;rw[e];refine⟨fun q=>?_,fun m hm hk1=>?_⟩
 ·have hg:∀m∈(ms.take i).take q,recF m=0:=fun m hm=>h.tap.good m (List.mem_of_mem_take (List.mem_of_mem_take hm))
  obtain⟨q1,_,_⟩:=Zp8 ((ms.take i).take q) (n:=cr0 k tl ty) (by simp[cr0,Fl.fresh]) (fun m hm=>Zmp (hg m hm));have hc:=Zie ((ms.take i).take q) (cr0 k tl ty);have hc0:core (cr0 k tl ty)=co0:=rfl;rw[hc0]at hc;have hc:core (((ms.take i).take q).foldl recS (cr0 k tl ty))=coOf ((ms.take i).take q):=hc;have ho:=Zvx ((h.recs.take i).take q);have e1:=congrArg Co.table hc;have e2:=congrArg Co.bats hc;have e3:=congrArg Co.digs hc;simp only[core]at e1 e2 e3;refine⟨?_,?_,?_,q1⟩
  ·rw[e1];exact(Zc5.1 ho.table).1
  ·rw[e2,e3,ho.digs];simp
  ·rw[e2];exact ho.few
 ·have hg:=h.tap.good m (List.mem_of_mem_take hm);have h1:=(msgF_zero (Zfk hg).1).2.2.2.1;unfold Zd7 at h1;rw[if_pos hk1]at h1;have h2:=batchF_zero h1;exact⟨h2.2.1,fun s hs=>(h2.2.2.2.2 s hs).2⟩
theorem Ztg{keep:Int}(hm:Zba n.tl n.ty=true)(hk:0≤keep):crL n.tl n.ty keep=n.tl.take (Zds n.ty keep n.tl.length)∧crA n.tl n.ty keep=(Zds n.ty keep n.tl.length:Nat)∧0≤n.ty:=by
 refine⟨by unfold crL;rw[if_pos ⟨hm,hk⟩],by unfold crA;rw[if_pos ⟨hm,hk⟩],?_⟩;unfold Zba at hm;simp at hm;exact hm.1
end Fl
theorem Zzi(a b:Int):(if a≤b then a else b)=(if b<a then b else a):=by
 rcases Int.lt_or_le b a with h|h
 ·rw[if_pos h,if_neg (show ¬a≤b by omega)]
 ·rw[if_neg (show ¬b<a by omega),if_pos h]
theorem RVec.cutN{n:Nat}(hr:RVec enc bs h (.slice A n c) xs){m:Nat}(hk:k≤xs.length)(hkm:k≤m)(hm:m≤c):RVec enc bs h (.slice A k m) (xs.take k):=by
 obtain⟨A',c',e,h1,h2,h3,h4,h5⟩:=hr;injection e with e1 e2 e3;subst e1 e2 e3;have hl:(xs.take k).length=k:=by simp;omega
 refine⟨A,m,by rw[hl],by omega,Nat.le_trans hm h2,by rw[hl];exact Nat.le_trans (Nat.mul_le_mul_right _ hk) h3,fun h=>by have:=h4 h;omega,fun hp=>?_⟩;obtain⟨b,o,ea,hc⟩:=h5 (by omega);refine⟨b,o,ea,fun i hi=>?_⟩;rw[hl]at hi;rw[hc i (by omega),List.getElem_take]
end Go.Proofs.YtinibgklgehdpaaGreatDoor
