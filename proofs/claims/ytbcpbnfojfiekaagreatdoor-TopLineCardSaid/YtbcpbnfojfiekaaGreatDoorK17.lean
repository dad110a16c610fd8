/- A part of what the last text stands on. -/
import Derived.Test.YtbcpbnfojfiekaaGreatDoorK16
namespace Go.Proofs.YtbcpbnfojfiekaaGreatDoor
open Go.ChangeShapes Go.WideShapes Go.ChangeAt Go.RowKit Go.Proofs.Tryz Qa Qb Qc
set_option linter.all false
set_option maxHeartbeats 20000000
set_option maxRecDepth 100000
variable{w:World}{v:Value}{k b:Nat}{α:Type}{l:List Crt}
theorem Zfl(vl:Value)(l:List Crt)(w:World)(hl:RCrts w.cell? vl l)(hT:Tabs w.cell?) :
 Calls prog 107 #[.agg #[vl]] w fun e w'=>e=.returned (.int .i64 (dagF hD cF l))∧Below w.heap.size w w':=by
 obtain⟨A,c,rfl,y⟩:=id hl;have HT:=Zb hT;clear hT;obtain⟨_,sj,sa,gb⟩:=hl.at;have gg:=Zb gb;have Hl:=Zb hl;clear gb hl y;obtain⟨Q,hQ⟩:∃Q,Hid (dagF hD cF l=Q):=⟨_,rfl⟩;rw[hQ.out]
 by_cases T:400<l.length
 ·have U:Hid (Q=12):=by show _=_;rw[←hQ.out,dagF_big T]
  clear hQ;go_enter func107,ntmps107;go_wp2;go_ret;exact⟨Zak U.out.symm,Zac _ _⟩
 have h8:=Zb T;have sf:l.length≤400:=by omega
 clear T;go_enter func107,ntmps107;go_upto_region 1 with fail;refine Zo fun W hg gz u=>?_
 have v:=u.size;clear gz;have g0:=hg.cell 0;simp at g0;go_wp2
 go_loopw [4,17] (fun _ i wr=>∃k:Nat,k≤l.length∧i=.int .i64 k∧Hid (∀j (Z:j<l.length),j<k→cF l[j]=0)∧Below W.heap.size W wr) (fun _ i _=>l.length-(intOf i).toNat)
 case atStart=>exact⟨0,Zf _,rfl,fun j _ Z=>by omega,Zm _ _⟩
 case round =>
  clear g0;obtain⟨k,hk,rfl,H,D⟩:=hrel;have O:=hg.kept D;have g0:=O.cell 0;simp at g0;have g:=u.trans (D.mono v)
  by_cases t:k<l.length
  ·obtain⟨b0,o0,vb,vp,vv,rfl,q0,q1,q2,q3,q4,hb,hp,hv⟩:=gg.out k t;obtain⟨bA,bc,rfl,hy⟩:=id hb;obtain⟨pA,pc,rfl,hs⟩:=id hp;obtain⟨vA,vc,rfl,hf⟩:=id hv;clear hy hs hf;have c0:=Zaa g _ _ q0;have c1:=Zaa g _ _ q1;have c2:=Zaa g _ _ q2;have c3:=Zaa g _ _ q3;have c4:=Zaa g _ _ q4;have g9:=Zb (hb.mono Ze (Zaa g));have gh:=Zb (hp.mono Ze (Zaa g));have gi:=Zb (hv.mono (Zaa g));have hx:Hid (∀e,cF l[k]=e→Zhk l[k].hdr.author l[k].hdr.round l[k].hdr.batches l[k].hdr.parents l[k].voters=e):=fun e h=>h
   have a:Hid (cF l[k]≠0→Q=12):=fun h=>by rw[←hQ.out];exact Zyc h8.out t h
   have b:Hid (cF l[k]=0→∀j (Z:j<l.length),j<k+1→cF l[j]=0):=fun R j Z sb=>by
    by_cases e:j=k
    ·subst e;exact R
    ·exact H.out j Z (by omega)
   clear q0 q1 q2 q3 q4 hb hp hv;generalize l[k]=x at *;obtain⟨E,hE⟩:∃E,Hid (cF x=E):=⟨_,rfl⟩;rw[hE.out]at b a;go_wp2_with fail;refine Za9 _ _ _ (fun W=>Calls prog _ _ W _) (fun W2 V M f=>?_);have qW:=Zaa f;refine(Zen _ _ _ _ _ x.hdr.batches x.hdr.parents x.voters _ (g9.out.mono Ze qW) (gh.out.mono Ze qW) (gi.out.mono qW)).mono ?_;rintro e w1 ⟨rfl,I⟩;have I:=f.trans (I.mono f.size);clear V M f qW;rw[hx.out _ hE.out];have o:=D.trans (I.mono D.size);clear g9 gh gi c0 c1 c2 c3 c4 g0 hx
   by_cases h0:E=0
   ·have R:=Zb (b.out h0);clear b a;subst h0;go_wp2;go_roundw
    case rel=>exact⟨k+1,by omega,by go_num,R.out,o⟩
    case measure=>simp[intOf];omega
   ·have U:=Zb (a.out h0);clear b a;go_wp2;go_ret;exact⟨Zak U.out.symm,u.trans (o.mono v)⟩
  ·have s0:k=l.length:=by omega
   have P:=Zyw (fun j Z=>H.out j Z (by omega));have ga:Hid (Q=if (List.range l.length).any (badC hD l)then 12 else 0):=by show _=_;rw[←hQ.out,Zyb h8.out P]
   have h7:=Zb P;clear P hQ H;go_wp2_with fail;refine(Zsw _ l _ (Hl.out.mono RCrt.mono (Zaa g)) (fun c hc=>Zym (h7.out c hc)) (HT.out.mono (Zaa g))).mono ?_;rintro e w1 ⟨vd,rfl,I,od⟩;have o:=D.trans (I.mono D.size);have gx:=u.trans (o.mono v);have ht:=Zhd l;have rD:=od.reads (RFrom.mono Ze) (bs:=24) (by omega);have rD:RDigs w1.cell? vd (dsOf hD l):=RSl.weak (fun h cs x hr=>Ze _ _ _ _ hr (View.from_le _ _)) rD;obtain⟨dA,dc,rfl,gm,y⟩:=id rD;clear y;rw[ht]at gm;have hm:=Zb ht;have RD:=Zb rD;have gc:=O.kept I;have sc:=o.size;clear g0;have g0:=gc.cell 0;simp at g0;clear O rD od ht s0 t hk;obtain⟨DN,gf⟩:∃DN,Hid ((dsOf hD l).length=DN):=⟨_,rfl⟩;rw[gf.out];have s6:DN=l.length:=by rw[←gf.out,hm.out]
   go_wp2
   go_loopw [31] (fun i wr=>∃k:Nat,k≤l.length∧i=.int .i64 k∧Hid (∀j,j<k→badC hD l j=false)∧Below W.heap.size W wr∧Below w1.heap.size w1 wr) (fun i _=>l.length-(intOf i).toNat)
   case atStart=>exact⟨0,Zf _,rfl,fun j Z=>by omega,o,Zm _ _⟩
   case round =>
    clear g0;obtain⟨k,hk,rfl,H,C,s⟩:=hrel;have ha:=hg.kept C;have g0:=ha.cell 0;simp at g0;have gp:=C.size;have d:=u.trans (C.mono v)
    by_cases t:k<l.length
    ·obtain⟨b0,o0,vb,vp,vv,rfl,q0,q1,q2,q3,q4,hb,hp,hv⟩:=gg.out k t;have c0:=Zaa d _ _ q0;have c1:=Zaa d _ _ q1;have c2:=Zaa d _ _ q2;have c3:=Zaa d _ _ q3;have c4:=Zaa d _ _ q4;have hn:=hp;have p:=Zb (badC_at t);have Hr:=Zb (headF_zero (Zym (h7.out l[k] (List.getElem_mem t))));have r:=(Hl.out.take (k:=k) (by omega)).mono RCrt.mono (Zaa d);have n:=(RD.out.take (k:=k) (by rw[hm.out];omega)).mono Ze (Zaa s);have z:((dsOf hD l).take k).length≤(l.take k).length:=by rw[List.length_take,List.length_take,hm.out];omega
     have s9:k≤c:=by omega
     have s4:(k:Int)≤(c:Int):=by omega
     have si:k≤dc:=by omega
     have s1:(k:Int)≤(dc:Int):=by omega
     have b:Hid (badC hD l k=false→∀j,j<k+1→badC hD l j=false):=fun R j Z=>by
      by_cases e:j=k
      ·subst e;exact R
      ·exact H.out j (by omega)
     have a:Hid (badC hD l k=true→Q=12):=fun h=>by rw[ga.out,if_pos (Zb8 t h)]
     obtain⟨bA,bc,rfl,hy⟩:=id hb;obtain⟨pA,pc,rfl,hs⟩:=id hp;obtain⟨vA,vc,rfl,hf⟩:=id hv;clear q0 q1 q2 q3 q4 hb hp hv hy hs hf;generalize l[k]=x at *;generalize l.take k=L at r p z;generalize (dsOf hD l).take k=Ds at n p z;generalize badC hD l k=BK at p b a;have p:Hid (BK=(Zif L x.hdr||(Zgt L Ds x.hdr||decide (0<(Zgu Ds x.hdr).length)))):=by show _=_;rw[p.out,parF_ne]
     have g4:(Zgu Ds x.hdr).length*24≤140737488355328:=Zg (Nat.mul_le_mul_right _ (List.length_filter_le _ _)) (by obtain⟨_,_,_,_,_,h,_⟩:=hn;exact h);go_wp2_with fail;refine Za9 _ _ _ (fun W=>(Code.region _ _ _).wp _ _ _ W) (fun W2 V M f=>?_);clear M c0 c1 c2 c3 c4 g0;have ho:=d.trans (f.mono d.size);have h6:=C.trans (f.mono gp);have h9:=ha.kept f;have r:=r.mono RCrt.mono (Zaa f);have n:=n.mono Ze (Zaa f);have g6:=hn.mono Ze (Zaa ho);clear hn;have gd:∀W',Below W2.heap.size W2 W'→Below W.heap.size W W':=fun W' h=>h6.trans (h.mono h6.size)
     refine Zr [14] (.q 0 (.q 1 (.q 2 (.q 3 (.q 4 (.q 5 (.q 6 (.q 7 (.q 8 (.l 9 (.q 10 (.q 11 (.q 12 (.q 13 (.qc 14 .nil))))))))))))))) fun W3 F=>?_
     repeat((first|refine pq (h:=⟨_,fun w' hS=>by(have R:=h9.kept hS;have h0:=R.cell 0;have Y:=V.kept hS;have h1:=Y.cell 0;have h2:=Y.cell 1;have h3:=Y.cell 2;have h4:=Y.cell 3;simp at h0 h1 h2 h3 h4;go_simp;exact rfl),?_⟩)|refine Zq ?_);simp only[sx])
     refine Zd fun K hK=>?_
     try simp only[sy]
     go_simp;refine(Zhz _ _ L Ds x.hdr _ _ _ (r.mono RCrt.mono (Zaa F)) (n.mono Ze (Zaa F)) (g6.mono Ze (Zaa F)) z Hr.out.1 Hr.out.2.1).mono ?_;rintro e w4 ⟨v4,rfl,g8,o4⟩;have G:=F.trans (g8.mono F.size);generalize Zgu Ds x.hdr=N at o4 p g4;generalize Zgt L Ds x.hdr=MW at p;obtain⟨nA,nc,rfl⟩:=o4.form;obtain⟨nl,g7⟩:∃nl,Hid (N.length=nl):=⟨_,rfl⟩;rw[g7.out]at p;rw[g7.out];clear o4 g4;refine hK.out _ _ (G) fun hS=>?_
     clear hK K
     try simp only[sx]
     repeat(refine Zq ?_;simp only[sx])
     refine Zai ?_;have gj:=h9.kept G;have gv:=V.kept G;have hz:=r.mono RCrt.mono (Zaa G);have m:=gd _ G;have J:Below w1.heap.size w1 w4:=(s.trans (f.mono s.size)).trans (G.mono (Zg s.size f.size));clear r n g6 g8 F
     by_cases g5:0<nl
     ·have U:=Zb (a.out (by rw[p.out];simp[g5]));have gs:(0:Int)<nl:=by omega
      clear p b a;go_wp2_with fail;refine Zr [] (.q 0 (.q 1 (.q 2 (.q 3 (.q 4 (.q 5 (.q 6 (.q 7 (.q 8 (.q 9 (.q 10 (.q 11 (.q 12 (.l 13 (.q 14 .nil))))))))))))))) fun W6 B=>?_
      repeat(refine Zq ?_;simp only[sx])
      refine Zai ?_;go_wp2;go_ret;exact⟨Zak U.out.symm,u.trans ((m.trans (B.mono m.size)).mono v)⟩
     ·have gr:nl=0:=by omega
      rw[gr]at p⊢;cases MW
      ·have p:Hid (BK=Zif L x.hdr):=by show _=_;rw[p.out];simp
       go_wp2_with fail;refine Zr [] (.q 0 (.q 1 (.q 2 (.q 3 (.q 4 (.q 5 (.q 6 (.q 7 (.q 8 (.q 9 (.q 10 (.q 11 (.q 12 (.l 13 (.q 14 .nil))))))))))))))) fun W6 B=>?_
       repeat((first|refine pq (h:=⟨_,fun w' hS=>by(have R:=gj.kept hS;have h0:=R.cell 0;have Y:=gv.kept hS;have h1:=Y.cell 0;have h2:=Y.cell 1;have h3:=Y.cell 2;have h4:=Y.cell 3;simp at h0 h1 h2 h3 h4;go_simp;exact rfl),?_⟩)|refine Zq ?_);simp only[sx])
       refine Zd fun K hK=>?_
       try simp only[sy]
       go_simp;refine(Ziy _ L x.hdr _ _ _ (hz.mono RCrt.mono (Zaa B))).mono ?_;rintro e w7 ⟨rfl,gy⟩;have S:=B.trans (gy.mono B.size);obtain⟨TK,X⟩:∃TK,Hid (Zif L x.hdr=TK):=⟨_,rfl⟩;rw[X.out];rw[X.out]at p;cases TK
       ·have R:=Zb (b.out p.out);clear b a p X;refine hK.out _ _ (S) fun hS=>?_
        clear hK K
        try simp only[sx]
        repeat(refine Zq ?_;simp only[sx])
        refine Zai ?_;go_wp2;go_roundw
        case rel=>exact⟨k+1,by omega,by go_num,R.out,m.trans (S.mono m.size),J.trans (S.mono J.size)⟩
        case measure=>simp[intOf];omega
       ·have U:=Zb (a.out p.out);clear b a p X;refine hK.out _ _ (S) fun hS=>?_
        clear hK K
        try simp only[sx]
        repeat(refine Zq ?_;simp only[sx])
        refine Zai ?_;go_wp2;go_ret;exact⟨Zak U.out.symm,u.trans ((m.trans (S.mono m.size)).mono v)⟩
      ·have U:=Zb (a.out (by rw[p.out];simp));clear p b a;go_wp2_with fail;refine Zr [] (.q 0 (.q 1 (.q 2 (.q 3 (.q 4 (.q 5 (.q 6 (.q 7 (.q 8 (.q 9 (.q 10 (.q 11 (.q 12 (.l 13 (.q 14 .nil))))))))))))))) fun W6 B=>?_
       repeat(refine Zq ?_;simp only[sx])
       refine Zai ?_;go_wp2;go_ret;exact⟨Zak U.out.symm,u.trans ((m.trans (B.mono m.size)).mono v)⟩
    ·have U:Hid (Q=0):=by
      show _=_;rw[ga.out,if_neg];rw[Bool.not_eq_true];exact Zds fun j Z=>H.out j (by omega)
     go_wp2;go_ret;exact⟨Zak U.out.symm,d⟩
def Zr1(l:List Crt)(h:Hdr):Int:=if dagF hD cF l≠0 then dagF hD cF l else if hF h≠0 then hF h else if Zgt l (dsOf hD l) h then 9 else 0
def Zxe(l:List Crt)(h:Hdr):List (List UInt8):=if Zr1 l h=0 then Zgu (dsOf hD l) h else []
theorem Zit(h:dagF hD cF l=0):l.length≤400∧(∀c∈l,hF c.hdr=0):=⟨(dagF_zero h).1,fun c a=>Zym ((dagF_zero h).2.1 c a)⟩
theorem RDigs.of_own{xs:List (List UInt8)}{bb:Nat}(h:OwnSl 1 (RFrom bb RDig) 53 w b v xs)(a:xs.length*24≤140737488355328):RDigs w.cell? v xs :=
 RSl.weak (fun h cs x c=>Ze _ _ _ _ c (View.from_le _ _)) (h.reads (RFrom.mono Ze) a)
theorem RDigs.nil(h:View):RDigs h (.slice none 0 0) []:=⟨none,0,rfl,Za _,Zf _,by simp,fun _=>rfl,fun h=>by simp at h⟩
theorem Zm2(vl:Value)(l:List Crt)(h:Hdr)(vb vp:Value)(w:World)(hl:RCrts w.cell? vl l)(hb:RDigs w.cell? vb h.batches)(hp:RDigs w.cell? vp h.parents)(hT:Tabs w.cell?) :
 Calls prog 136 #[.agg #[vl],.agg #[.int .i64 h.author,.int .i64 h.round,vb,vp]] w fun e w'=>∃d,e=.returned (.tuple #[d,.int .i64 (Zr1 l h)])∧Below w.heap.size w w'∧RDigs w'.cell? d (Zxe l h):=by
 obtain⟨A,c,rfl,h4⟩:=id hl;obtain⟨bA,bc,rfl,h5⟩:=id hb;obtain⟨pA,pc,rfl,h6⟩:=id hp;clear h4 h5 h6;have X:h.parents.length*24≤140737488355328:=by obtain⟨_,_,_,_,_,h,_⟩:=hp;exact h
 obtain⟨QE,y⟩:∃q,Hid (Zr1 l h=q):=⟨_,rfl⟩;obtain⟨QL,F⟩:∃q,Hid (Zxe l h=q):=⟨_,rfl⟩;have f:Hid (QE=if dagF hD cF l≠0 then dagF hD cF l else if hF h≠0 then hF h else if Zgt l (dsOf hD l) h then 9 else 0):=y.out.symm;have g:Hid (QL=if QE=0 then Zgu (dsOf hD l) h else []):=by show _=_;rw[←F.out];unfold Zxe;rw[y.out]
 have k:Hid (dagF hD cF l=0→l.length≤400∧(∀c∈l,hF c.hdr=0)):=Zit;have r:Hid (hF h=0→1≤h.round∧h.round≤1048576):=fun S=>by obtain⟨a,b,_⟩:=headF_zero S;exact⟨a,b⟩
 rw[y.out,F.out];clear y F;obtain⟨E1,x⟩:∃q,Hid (dagF hD cF l=q):=⟨_,rfl⟩;obtain⟨E2,u⟩:∃q,Hid (hF h=q):=⟨_,rfl⟩;rw[x.out,u.out]at f;rw[x.out]at k;rw[u.out]at r;go_enter func136,ntmps136;go_wp2_with fail;refine Za8 _ _ _ _ _ (fun W=>Calls prog _ _ W _) (fun W h9 Y U v=>?_);clear U;refine(Zfl _ l _ (hl.mono RCrt.mono (Zaa v)) (hT.mono (Zaa v))).mono ?_;rintro e w1 ⟨rfl,I⟩;rw[x.out];have m:=v.trans (I.mono v.size);have B:=h9.kept I;have i:=Y.kept I;have V:=m.size
 by_cases P:E1=0
 ·have hv:=Zb (k.out P);have f:Hid (QE=if E2≠0 then E2 else if Zgt l (dsOf hD l) h then 9 else 0):=by show _=_;rw[f.out];simp[P]
  clear k x;subst P;have g0:=i.cell 0;have g1:=i.cell 1;have g2:=i.cell 2;have g3:=i.cell 3;simp at g0 g1 g2 g3;go_wp2_with fail;refine(Zdr _ _ _ _ h.batches h.parents _ (hb.mono Ze (Zaa m)) (hp.mono Ze (Zaa m))).mono ?_;rintro e w2 ⟨rfl,G⟩;rw[show Zb5 h.author h.round h.batches h.parents=E2 from u.out];have j:=m.trans (G.mono V);have z:=B.kept G;have n:=i.kept G;have h3:=j.size;clear g0 g1 g2 g3
  by_cases M:E2=0
  ·have hr:=r.out M;have f:Hid (QE=if Zgt l (dsOf hD l) h then 9 else 0):=by show _=_;rw[f.out];simp[M]
   clear r u;subst M;have E:=hl.mono RCrt.mono (Zaa j);have O:=hp.mono Ze (Zaa j);have Q:=hT.mono (Zaa j);go_wp2_with fail;refine Zr [11] (.q 0 (.q 1 (.q 2 (.q 3 (.q 5 (.l 4 (.l 6 (.q 7 (.q 8 (.q 9 (.q 10 (.qc 11 .nil)))))))))))) fun W3 s=>?_
   repeat((first|refine pq (h:=⟨_,fun w' J=>by(have hq:=z.kept J;have S:=hq.cell 0;have t:=n.kept J;have p0:=t.cell 0;have p1:=t.cell 1;have p2:=t.cell 2;have p3:=t.cell 3;simp at S p0 p1 p2 p3;go_simp;exact rfl),?_⟩)|refine Zq ?_);simp only[sx])
   refine Zd fun K R=>?_
   try simp only[sy]
   go_simp;refine(Zsw _ l _ (E.mono RCrt.mono (Zaa s)) hv.out.2 (Q.mono (Zaa s))).mono ?_;rintro e w4 ⟨vd,rfl,Z,od⟩;have p:=s.trans (Z.mono s.size);have rD:=RDigs.of_own od (by rw[Zhd];have:=hv.out.1;omega);have C:(dsOf hD l).length≤l.length:=by rw[Zhd];omega
   clear od;generalize dsOf hD l=Ds at rD C f g;obtain⟨dA,dc,rfl,T⟩:=id rD;clear T;refine R.out _ _ (p) fun J=>?_
   clear R K
   try simp only[sx]
   repeat((first|refine pq (h:=⟨_,fun w' J=>by(have t:=n.kept J;have p0:=t.cell 0;have p1:=t.cell 1;have p2:=t.cell 2;have p3:=t.cell 3;simp at p0 p1 p2 p3;go_simp;exact rfl),?_⟩)|refine Zq ?_);simp only[sx])
   refine Zd fun K R=>?_
   try simp only[sy]
   go_simp;refine(Zhz _ _ l Ds h _ _ _ (E.mono RCrt.mono (Zaa p)) rD (O.mono Ze (Zaa p)) C hr.1 hr.2).mono ?_;rintro e w5 ⟨v5,rfl,h7,o5⟩;have L:=p.trans (h7.mono p.size);have r5:=RDigs.of_own o5 (Zg (Nat.mul_le_mul_right _ (List.length_filter_le _ _)) X);obtain⟨A5,c5,rfl⟩:=o5.form;clear o5 rD;generalize Zgu Ds h=N at r5 g;generalize Zgt l Ds h=MW at f;refine R.out _ _ (L) fun J=>?_
   clear R K
   try simp only[sx]
   repeat(refine Zq ?_;simp only[sx])
   refine Zai ?_;have D:=j.trans (L.mono h3);clear z n B i E O Q;cases MW
   ·have o:Hid (QE=0):=by show _=_;rw[f.out];rfl
    have H:Hid (QL=N):=by show _=_;rw[g.out,if_pos o.out]
    clear f g;go_wp2;go_ret2;exact⟨_,by rw[o.out];rfl,D,by rw[H.out];exact r5⟩
   ·have o:Hid (QE=9):=by show _=_;rw[f.out];rfl
    have H:Hid (QL=[]):=by show _=_;rw[g.out,if_neg (by rw[o.out];decide)]
    clear f g;go_wp2;go_ret2;exact⟨_,by rw[o.out];rfl,D,by rw[H.out];exact RDigs.nil _⟩
  ·have o:Hid (QE=E2):=by show _=_;rw[f.out];simp[M]
   have H:Hid (QL=[]):=by show _=_;rw[g.out,o.out,if_neg M]
   clear f g;go_wp2;go_ret2;exact⟨_,by rw[o.out];rfl,j,by rw[H.out];exact RDigs.nil _⟩
 ·have o:Hid (QE=E1):=by show _=_;rw[f.out,if_pos P]
  have H:Hid (QL=[]):=by show _=_;rw[g.out,o.out,if_neg P]
  clear f g;go_wp2;go_ret2;exact⟨_,by rw[o.out];rfl,m,by rw[H.out];exact RDigs.nil _⟩
theorem Zhe(v:Value)(xs:List Int)(w:World)(d:RIs w.cell? v xs) :
 Calls prog 65 #[v] w fun e w'=>∃v',e=.returned v'∧Below w.heap.size w w'∧OwnI w' w.heap.size v' xs:=by
 have i:xs.length*8≤140737488355328:=d.len;have b:=Zb i;obtain⟨A,c,rfl,k⟩:=id d;have e1:=@Lib.run_eql_slice_nil prog;clear i k;cases A with
 |none =>
  obtain⟨rfl,l,rfl⟩:=d.isNil;go_enter func65,ntmps65;go_wp2;go_ret;exact⟨_,rfl,Zm _ _,OwnVec.nil _ _ _ _⟩
 |some a =>
  have g:=d.mono (Zaa ((Zm _ _).alloc (Za _) (.cells #[] 3)));clear d;go_enter func65,ntmps65;go_wp2_with (at_builtin;refine Za6 (n:=140737488355328) Zx5 Zis _ _ rfl rfl rfl (OwnVec.made _ _ _ _ (Za _)) ((Zm _ _).alloc (Za _) _) (Zar _ (Za _)) rfl g (Za _) (by simpa using b.out) (by have:=b.out;simp;omega) ?_);intro v' w1 j f _;go_wp2;go_ret;exact⟨v',rfl,f,by simpa using j⟩
theorem Zhs(v:Value)(l:List (List UInt8))(w:World)(h:RDigs w.cell? v l) :
 Calls prog 216 #[v] w fun e w'=>∃v',e=.returned v'∧Below w.heap.size w w'∧OwnSl 1 (RFrom w.heap.size RDig) 53 w' w.heap.size v' l:=by
 obtain⟨A,c,rfl,I⟩:=id h;obtain⟨_,F,D,u⟩:=h.at;have z:=Zb u;clear u h I;go_enter func216,ntmps216;go_wp2
 go_loopw [3,5,8] (fun v _ i wr=>∃k:Nat,k≤l.length∧i=.int .i64 k∧OwnSl 1 (RFrom w.heap.size RDig) 53 wr w.heap.size v (l.take k)∧Below w.heap.size w wr) (fun _ _ i _=>l.length-(intOf i).toNat)
 case atStart=>exact⟨0,Zf _,rfl,OwnSl.nil _ _ _ _ _,Zm _ _⟩
 case round =>
  obtain⟨k,J,rfl,a,b⟩:=hrel;have t:=b.size
  by_cases p:k<l.length
  ·obtain⟨b0,o0,d,rfl,e0,hd⟩:=z.out k p;have c0:=Zaa b _ _ e0;have j:=hd.mono (Zaa b);have o:=Zb (show(l.take k).length=k by simp;omega);have C:=Zb (Zn p);have s:=Zb (show l[k].length*1≤140737488355328 from hd.len);clear e0 hd;generalize l.take k=L at a o C;generalize l[k]=x at j s C;obtain⟨xA,xc,rfl,y⟩:=id j;clear y;go_wp2_with fail;refine(Zcj _ x _ j).mono ?_;rintro e w1 ⟨d',rfl,r,o1⟩;have f:=a.kept (RFrom.mono Ze) r;have m:Below w.heap.size w w1:=b.trans (r.mono t)
   have E:RFrom w.heap.size RDig (View.but w1.cell? u3.ownBlock) [d'] x :=
    ⟨d',rfl,o1.reads_from s.out t (fun g H=>(a.lt g H).2)⟩
   have B:=m.size;obtain⟨A',c',rfl⟩:=o1.form;clear c0 j o1;go_wp2_with (at_builtin;go_loud (refine Zaz (n:=140737488355328) (RFrom.mono Ze) x [.slice A' x.length c'] Ze2 _ _ rfl rfl rfl f m B rfl rfl rfl rfl E (Za _) (by rw[o.out];omega) (by rw[o.out];omega) ?_));intro v' w2 G q _;clear a f E;go_wp2;go_roundw
   case rel=>exact⟨k+1,by omega,by go_num,by rw[C.out];exact G,q⟩
   case measure=>simp[intOf];omega
  ·have:k=l.length:=by omega
   subst this;go_wp2;go_ret;exact⟨_,rfl,b,by simpa using a⟩
theorem Znx(a r:Int)(vb vp vv:Value)(b p:List (List UInt8))(vs:List Int)(w:World)(S:RDigs w.cell? vb b)(hp:RDigs w.cell? vp p)(I:RIs w.cell? vv vs) :
 Calls prog 192 #[.agg #[.int .i64 a,.int .i64 r,vb,vp,vv]] w fun e w'=>∃vb' vp' vv',e=.returned (.agg #[.int .i64 a,.int .i64 r,vb',vp',vv'])∧Below w.heap.size w w' ∧
  RDigs (View.from w'.cell? w.heap.size) vb' b∧RDigs (View.from w'.cell? w.heap.size) vp' p∧RIs (View.from w'.cell? w.heap.size) vv' vs:=by
 have h7:b.length*24≤140737488355328:=by obtain⟨_,_,_,_,_,h,_⟩:=S;exact h
 have ha:p.length*24≤140737488355328:=by obtain⟨_,_,_,_,_,h,_⟩:=hp;exact h
 have h8:=I.len;obtain⟨bA,bc,rfl,h9⟩:=id S;obtain⟨pA,pc,rfl,hc⟩:=id hp;obtain⟨vA,vc,rfl,Z⟩:=id I;clear h9 hc Z;go_enter func192,ntmps192;go_upto_region 1 with fail;refine Za8 _ _ _ _ _ (fun W=>Code.wp _ _ _ _ W) (fun W i L V j=>?_);have hf:w.heap.size+2≤W.heap.size:=by omega
 clear V;have g0:=i.cell 0;have g1:=i.cell 1;have g2:=i.cell 2;have g3:=i.cell 3;simp at g0 g1 g2 g3;go_upto_region 2 with fail;refine Zo fun W2 G h4 y=>?_
 have ho:W.heap.size+1≤W2.heap.size:=by omega
 clear h4 g0 g1 g2 g3;have t:=j.trans (y.mono j.size);have A:=i.kept y;have B:=L.kept y;have hB:=S.mono Ze (Zaa t);have hP:=hp.mono Ze (Zaa t);have hV:=I.mono (Zaa t);have U:=I;clear i L S hp I hV;refine Zt (fun w'=>Below W2.heap.size W2 w') (fun w'=>Below W2.heap.size W2 w') [6,7,8,9] (.q 0 (.q 1 (.q 3 (.q 4 (.l 2 (.qc 6 (.l 5 (.l 7 (.qc 8 (.l 9 .nil)))))))))) ?_ ?_
 ·exact⟨Zad _,Zad _⟩
 intro W3 _ s
 repeat((first|refine pq (h:=⟨_,fun w' D=>by(have z:=G.kept D;have T:=z.cell 0;have Y:=z.cell 1;have X:=z.cell 2;have G:=z.cell 3;simp at T Y X G;go_simp;exact rfl),?_⟩)|refine Zq ?_);simp only[sx])
 refine Zd fun K f=>?_
 try simp only[sy]
 go_simp;refine(Zhs _ b _ (hB.mono Ze (Zaa s))).mono ?_;rintro e w4 ⟨v4,rfl,h5,o4⟩;have o:=s.trans (h5.mono s.size);have r4:=o4.reads_from Ze h7;obtain⟨A4,c4,rfl⟩:=o4.form;clear o4;refine f.out _ _ (o) fun D=>?_
 clear f K
 try simp only[sx]
 repeat(refine Zq ?_;simp only[sx])
 refine Zd fun K f=>?_
 try simp only[sy]
 go_simp;refine(Zhs _ p _ (hP.mono Ze (Zaa o))).mono ?_;rintro e w5 ⟨v5,rfl,Q,o5⟩;have d:=o.trans (Q.mono o.size);have r5:=o5.reads_from Ze ha;obtain⟨A5,c5,rfl⟩:=o5.form;have J:=G.kept d;have r45:=r4.mono Ze (Za0 _ (Zaa Q));clear o5 r4;refine f.out _ _ (d) fun D=>?_
 clear f K
 try simp only[sx]
 repeat(refine Zq ?_;simp only[sx])
 refine Zc fun K f=>?_
 try simp only[sy]
 refine Zau (n:=1) rfl rfl rfl (by kernel_rfl) rfl J (by simp) rfl ?_;intro w6 v O;have v:Blk w6 W.heap.size 76 #[.int .i64 a,.int .i64 r,.slice A4 b.length c4,.slice pA p.length pc]:=v;refine f.out _ _ ?_;clear f K
 try simp only[sx]
 repeat(refine Zq ?_;simp only[sx])
 refine Zc fun K f=>?_
 try simp only[sy]
 refine Zau (n:=1) rfl rfl rfl (by kernel_rfl) rfl v (by simp) rfl ?_;intro w7 E H;have E:Blk w7 W.heap.size 76 #[.int .i64 a,.int .i64 r,.slice A4 b.length c4,.slice A5 p.length c5]:=E;have c:=Zae O H;have M:=(A.kept d).grown c (by simp;omega);have R:=(B.kept d).grown c (by simp;omega);have hk:=s.size;have hh:=o.size;have r47:RDigs (View.from w7.cell? (W.heap.size+1)) (.slice A4 b.length c4) b:=r45.mono Ze (Zdf (by omega) (VLe.refl _) c (by omega));have r57:RDigs (View.from w7.cell? (W.heap.size+1)) (.slice A5 p.length c5) p:=r5.mono Ze (Zdf (by omega) (VLe.refl _) c (by omega));have u:Below W.heap.size W w7:=Zab (y.trans (d.mono (by omega))) (by have:=d.size;omega) c (by intro k e;injection e;omega)
 have he:RIs w7.cell? (.slice vA vs.length vc) vs:=by
  refine RVec.mono (h:=w.cell?) ?_ (Zaa (j.trans (u.mono j.size)));exact U
 refine f.out _ _ ?_;clear f K
 try simp only[sx]
 repeat(refine Zq ?_;simp only[sx])
 refine Zai ?_;have hj:W.heap.size+1≤w7.heap.size:=by have:=c.size;have:=d.size;omega
 clear A B s o d O H r45 r5 J v hB hP;have hm:=u.size;go_wp2_with fail;refine Zr [5] (.q 0 (.q 1 (.q 2 (.l 3 (.q 4 (.l 5 .nil)))))) fun W8 x=>?_
 repeat((first|refine pq (h:=⟨_,fun w' D=>by(have z:=E.kept D;have T:=z.cell 0;have Y:=z.cell 1;have X:=z.cell 2;have G:=z.cell 3;have hp:=M.kept D;have p4:=hp.cell 4;simp at T Y X G p4;go_simp;exact rfl),?_⟩)|refine Zq ?_);simp only[sx])
 refine Zd fun K f=>?_
 try simp only[sy]
 go_simp;refine(Zhe _ vs _ (he.mono (Zaa x))).mono ?_;rintro e w9 ⟨v9,rfl,h6,o9⟩;have m:=x.trans (h6.mono x.size);obtain⟨A9,c9,rfl⟩:=o9.form;have P:=R.kept m;have hn:=x.size;refine f.out _ _ (m) fun D=>?_
 clear f K
 try simp only[sx]
 repeat(refine Zq ?_;simp only[sx])
 refine Zc fun K f=>?_
 try simp only[sy]
 refine Zh 5 P ?_;intro w10 N g;refine f.out _ _ ?_;clear f K
 try simp only[sx]
 repeat(refine Zq ?_;simp only[sx])
 refine Zai ?_;go_wp2;refine bodyPost_ret (Zay rfl rfl (by kernel_rfl) (by kernel_rfl) N rfl) rfl ?_;have F:Below w.heap.size w w10:=Zab ((j.trans (u.mono j.size)).trans (m.mono (by omega))) (by have:=m.size;omega) g (by intro k e;injection e;omega);have C:w.heap.size+1<W.heap.size+1:=by omega
 refine⟨_,_,_,rfl,F,?_,?_,?_⟩
 ·exact r47.mono Ze (Zdf (by omega) (Za0 _ (Zaa m)) g C)
 ·exact r57.mono Ze (Zdf (by omega) (Za0 _ (Zaa m)) g C)
 ·exact(o9.from_ (bs:=8) h8 (b0:=W.heap.size+1) (by omega)).mono (Zdf (by omega) (VLe.refl _) g C)
def insE(l:List Crt)(c:Crt):Int:=if dagF hD cF l≠0 then dagF hD cF l else if cF c≠0 then cF c else if Zif l c.hdr then 7 else if parF l (dsOf hD l) c.hdr≠0 then parF l (dsOf hD l) c.hdr else if 400≤l.length then 6 else 0
def insL(l:List Crt)(c:Crt):List Crt:=if insE l c=0 then l++[c]else []
theorem RCrts.nil(h:View):RCrts h (.slice none 0 0) []:=⟨none,0,rfl,Za _,Zf _,by simp,fun _=>rfl,fun h=>by simp at h⟩
theorem Zux(l:List Crt)(ds:List (List UInt8))(h:Hdr):parF l ds h=if Zgt l ds h then 9 else if (Zgu ds h).length=0 then 0 else 8:=rfl
theorem Zod(w:World)(c1 c2 c3:Array Value)(t1 t2 t3:TypeId)(R:World→Prop)(h:∀W,Blk W w.heap.size t1 c1→Blk W (w.heap.size+1) t2 c2→Blk W (w.heap.size+2) t3 c3→w.heap.size+3≤W.heap.size→Below w.heap.size w W→R W):R (((w.alloc (.cells c1 t1)).alloc (.cells c2 t2)).alloc (.cells c3 t3)):=by
 refine h _ (((Blk.new w t1 c1).alloc _).alloc _) ?_ ?_ (by simp) ((((Zm _ _).alloc (Za _) _).alloc (Zar _ (Za _)) _).alloc (Zar _ (Zar _ (Za _))) _)
 ·have:=(Blk.new (w.alloc (.cells c1 t1)) t2 c2).alloc (.cells c3 t3);simpa using this
 ·have:=Blk.new ((w.alloc (.cells c1 t1)).alloc (.cells c2 t2)) t3 c3;simpa using this
theorem Ziu(vl:Value)(l:List Crt)(x:Crt)(vb vp vv:Value)(w:World)(hl:RCrts w.cell? vl l)(hb:RDigs w.cell? vb x.hdr.batches)(hp:RDigs w.cell? vp x.hdr.parents)(hv:RIs w.cell? vv x.voters)(hT:Tabs w.cell?) :
 Calls prog 148 #[.agg #[vl],.agg #[.int .i64 x.hdr.author,.int .i64 x.hdr.round,vb,vp,vv]] w fun e w'=>∃d,e=.returned (.tuple #[.agg #[d],.int .i64 (insE l x)])∧Below w.heap.size w w'∧OwnSl 5 (RFrom w.heap.size RCrt) 79 w' w.heap.size d (insL l x):=by
 obtain⟨A,c,rfl,am⟩:=id hl;obtain⟨bA,bc,rfl,gb⟩:=id hb;obtain⟨pA,pc,rfl,g5⟩:=id hp;obtain⟨vA,vc,rfl,hf⟩:=id hv;clear am gb g5 hf;obtain⟨QE,gi⟩:∃q,Hid (insE l x=q):=⟨_,rfl⟩;obtain⟨QL,sa⟩:∃q,Hid (insL l x=q):=⟨_,rfl⟩;have f:Hid (QE=if dagF hD cF l≠0 then dagF hD cF l else if cF x≠0 then cF x else if Zif l x.hdr then 7 else if parF l (dsOf hD l) x.hdr≠0 then parF l (dsOf hD l) x.hdr else if 400≤l.length then 6 else 0):=gi.out.symm;have H:Hid (QL=if QE=0 then l++[x]else []):=by show _=_;rw[←sa.out];unfold insL;rw[gi.out]
 have Q:Hid (dagF hD cF l=0→l.length≤400∧(∀c∈l,hF c.hdr=0)):=Zit;have X:Hid (cF x=0→1≤x.hdr.round∧x.hdr.round≤1048576):=fun h0=>by obtain⟨a,b,_⟩:=headF_zero (Zym h0);exact⟨a,b⟩
 rw[gi.out,sa.out];clear gi sa;obtain⟨E1,gq⟩:∃q,Hid (dagF hD cF l=q):=⟨_,rfl⟩;obtain⟨E2,gh⟩:∃q,Hid (cF x=q):=⟨_,rfl⟩;rw[gq.out,gh.out]at f;rw[gq.out]at Q;rw[gh.out]at X
 have bad:∀(w1:World) (v:Int) (a3:v≠0) (hE:Hid (QE=v)) (hB:Blk w1 (w.heap.size+2) 107 #[.slice none 0 0]) (o:Below w.heap.size w w1),Hid (∃d,Ending.returned (.tuple #[.agg #[.slice none 0 0],.int .i64 v])=Ending.returned (.tuple #[.agg #[d],.int .i64 QE])∧Below w.heap.size w w1∧OwnSl 5 (RFrom w.heap.size RCrt) 79 w1 w.heap.size d QL):=fun w1 v a3 hE hB o =>
  ⟨_,by rw[hE.out],o,by rw[H.out,if_neg (by rw[hE.out];exact a3)];exact OwnSl.nil _ _ _ _ _⟩
 go_enter func148,ntmps148;go_upto_region 1 with fail
 refine Zod _ _ _ _ _ _ _ (fun W=>Code.wp _ _ _ _ W) (fun W s8 sj a6 aq gn=>?_);have g0:=s8.cell 0;simp at g0;go_wp2_with fail;refine(Zfl _ l _ (hl.mono RCrt.mono (Zaa gn)) (hT.mono (Zaa gn))).mono ?_;rintro e w1 ⟨rfl,he⟩;rw[gq.out];have S:=gn.trans (he.mono gn.size);have gu:=s8.kept he;have E:=sj.kept he;have hs:=a6.kept he;have s0:=S.size;clear g0
 by_cases h1:E1=0
 rotate_left
 ·have HE:Hid (QE=E1):=by show _=_;rw[f.out];simp[h1]
  go_wp2_with (refine Zj 1 hs ?_);intro w2 h9 s7
  have p:=bad w2 E1 h1 HE h9 (Zab S s0 s7 (by intro k e;injection e;omega));clear f H bad;go_wp2;refine bodyPost_ret (Zag rfl rfl (by kernel_rfl) (by kernel_rfl) h9 rfl) rfl ?_;exact p.out
 have gj:=Zb (Q.out h1);have f:Hid (QE=if E2≠0 then E2 else if Zif l x.hdr then 7 else if parF l (dsOf hD l) x.hdr≠0 then parF l (dsOf hD l) x.hdr else if 400≤l.length then 6 else 0):=by show _=_;rw[f.out];simp[h1]
 clear Q gq;subst h1;have q1:=Zaa S;have g0:=E.cell 0;have g1:=E.cell 1;have g2:=E.cell 2;have g3:=E.cell 3;have g4:=E.cell 4;simp at g0 g1 g2 g3 g4;go_wp2_with fail;refine(Zen _ _ _ _ _ x.hdr.batches x.hdr.parents x.voters _ (hb.mono Ze q1) (hp.mono Ze q1) (hv.mono q1)).mono ?_;rintro e w2 ⟨rfl,ha⟩;rw[show Zhk x.hdr.author x.hdr.round x.hdr.batches x.hdr.parents x.voters=E2 from gh.out];have T:=S.trans (ha.mono s0);have hw:=gu.kept ha;have G:=E.kept ha;have hm:=hs.kept ha;have gz:=T.size;clear g0 g1 g2 g3 g4 q1 gu E hs
 by_cases h2:E2=0
 rotate_left
 ·have HE:Hid (QE=E2):=by show _=_;rw[f.out];simp[h2]
  go_wp2_with (refine Zj 1 hm ?_);intro wz z P
  have p:=bad wz E2 h2 HE z (Zab T gz P (by intro k e;injection e;omega));clear bad H f;go_wp2;refine bodyPost_ret (Zag rfl rfl (by kernel_rfl) (by kernel_rfl) z rfl) rfl ?_;exact p.out
 have hr:=Zb (X.out h2);have f:Hid (QE=if Zif l x.hdr then 7 else if parF l (dsOf hD l) x.hdr≠0 then parF l (dsOf hD l) x.hdr else if 400≤l.length then 6 else 0):=by show _=_;rw[f.out];simp[h2]
 clear X gh;subst h2;have sl:=hl.mono RCrt.mono (Zaa T);have d0:=hw.cell 0;have g0:=G.cell 0;have g1:=G.cell 1;have g2:=G.cell 2;have g3:=G.cell 3;simp at d0 g0 g1 g2 g3;go_wp2_with fail;refine(Ziy _ l x.hdr _ _ _ sl).mono ?_;rintro e w3 ⟨rfl,hc⟩;have C:=T.trans (hc.mono gz);have hy:=hw.kept hc;have h5:=G.kept hc;have ht:=hm.kept hc;have s6:=C.size;obtain⟨TK,s5⟩:∃q,Hid (Zif l x.hdr=q):=⟨_,rfl⟩;rw[s5.out];rw[s5.out]at f;clear d0 g0 g1 g2 g3 s5 hw G hm;cases TK
 rotate_left
 ·have HE:Hid (QE=7):=by show _=_;rw[f.out];rfl
  go_wp2_with (refine Zj 1 ht ?_);intro wz z P
  have p:=bad wz 7 (by decide) HE z (Zab C s6 P (by intro k e;injection e;omega));clear bad H f;go_wp2;refine bodyPost_ret (Zag rfl rfl (by kernel_rfl) (by kernel_rfl) z rfl) rfl ?_;exact p.out
 have f:Hid (QE=if parF l (dsOf hD l) x.hdr≠0 then parF l (dsOf hD l) x.hdr else if 400≤l.length then 6 else 0):=by show _=_;rw[f.out];rfl
 have s4:=hl.mono RCrt.mono (Zaa C);have sk:=hp.mono Ze (Zaa C);have a7:=hT.mono (Zaa C);go_wp2_with fail
 go_cut [8,9] (fun v8 v9 w'=>∃nA nc,v8=.slice nA (Zgu (dsOf hD l) x.hdr).length nc∧v9=.bool (Zgt l (dsOf hD l) x.hdr)∧Below w3.heap.size w3 w')
 case first =>
  refine Zr [12] (.q 0 (.q 1 (.q 2 (.q 3 (.q 5 (.q 6 (.l 4 (.l 7 (.q 8 (.q 9 (.q 10 (.q 11 (.qc 12 .nil))))))))))))) fun W4 j=>?_
  repeat((first|refine pq (h:=⟨_,fun w' R=>by(have hq:=hy.kept R;have h0:=hq.cell 0;have hh:=h5.kept R;have p0:=hh.cell 0;have p1:=hh.cell 1;have p2:=hh.cell 2;have p3:=hh.cell 3;simp at h0 p0 p1 p2 p3;go_simp;exact rfl),?_⟩)|refine Zq ?_);simp only[sx])
  refine Zd fun K u=>?_
  try simp only[sy]
  go_simp;refine(Zsw _ l _ (s4.mono RCrt.mono (Zaa j)) gj.out.2 (a7.mono (Zaa j))).mono ?_;rintro e w4 ⟨vd,rfl,B,od⟩;have g6:=j.trans (B.mono j.size);have rD:=RDigs.of_own od (by rw[Zhd];have:=gj.out.1;omega);have gv:(dsOf hD l).length≤l.length:=by rw[Zhd];omega
  clear od;obtain⟨Ds,s9⟩:∃Ds,Hid (dsOf hD l=Ds):=⟨_,rfl⟩;rw[s9.out]at rD gv;obtain⟨dA,dc,rfl,a9⟩:=id rD;clear a9;refine u.out _ _ (g6) fun R=>?_
  clear u K
  try simp only[sx]
  repeat((first|refine pq (h:=⟨_,fun w' R=>by(have hh:=h5.kept R;have p0:=hh.cell 0;have p1:=hh.cell 1;have p2:=hh.cell 2;have p3:=hh.cell 3;simp at p0 p1 p2 p3;go_simp;exact rfl),?_⟩)|refine Zq ?_);simp only[sx])
  refine Zd fun K u=>?_
  try simp only[sy]
  go_simp;refine(Zhz _ _ l Ds x.hdr _ _ _ (s4.mono RCrt.mono (Zaa g6)) rD (sk.mono Ze (Zaa g6)) gv hr.out.1 hr.out.2).mono ?_;rintro e w5 ⟨v5,rfl,O,o5⟩;have sz:=g6.trans (O.mono g6.size);obtain⟨A5,c5,rfl⟩:=o5.form;clear o5 rD;refine u.out _ _ (sz) fun R=>?_
  clear u K
  try simp only[sx]
  repeat(refine Zq ?_;simp only[sx])
  refine Zai ?_;go_wp2_with fail;go_meet;exact⟨A5,c5,by rw[s9.out],by rw[s9.out],sz⟩
 case rest =>
  obtain⟨nA,nc,rfl,rfl,B⟩:=hcut;have t:=C.trans (B.mono s6);have gc:=hy.kept B;have sw:=h5.kept B;have h8:=ht.kept B;have gf:=t.size
  have f:Hid (QE=if Zgt l (dsOf hD l) x.hdr then 9 else if (Zgu (dsOf hD l) x.hdr).length=0 then(if 400≤l.length then 6 else 0)else 8):=by
   show _=_;rw[f.out,Zux];cases Zgt l (dsOf hD l) x.hdr
   ·simp only[Bool.false_eq_true,if_false]
    by_cases hz:(Zgu (dsOf hD l) x.hdr).length=0
    ·rw[if_pos hz,if_pos hz];rfl
    ·rw[if_neg hz,if_neg hz];rfl
   ·rfl
  have sb:=Zb gj.out.1;generalize Zgt l (dsOf hD l) x.hdr=MW at *;generalize (Zgu (dsOf hD l) x.hdr).length=nl at *;clear hy h5 ht s4 sk a7 sl;cases MW
  rotate_left
  ·have HE:Hid (QE=9):=by show _=_;rw[f.out];rfl
   go_wp2_with (refine Zj 1 h8 ?_);intro wz z P
   have p:=bad wz 9 (by decide) HE z (Zab t gf P (by intro k e;injection e;omega));clear bad H f;go_wp2;refine bodyPost_ret (Zag rfl rfl (by kernel_rfl) (by kernel_rfl) z rfl) rfl ?_;exact p.out
  by_cases gd:nl=0
  rotate_left
  ·have HE:Hid (QE=8):=by show _=_;rw[f.out];simp[gd]
   have ax:(0:Int)<nl:=by omega
   clear gd;go_wp2_with (refine Zj 1 h8 ?_);intro wz z P;have p:=bad wz 8 (by decide) HE z (Zab t gf P (by intro k e;injection e;omega));clear bad H f;go_wp2;refine bodyPost_ret (Zag rfl rfl (by kernel_rfl) (by kernel_rfl) z rfl) rfl ?_;exact p.out
  have gp:Hid (QE=if 400≤l.length then 6 else 0):=by show _=_;rw[f.out];simp[gd]
  clear f;subst gd;have d0:=gc.cell 0;simp at d0
  by_cases gs:l.length=400
  ·have HE:Hid (QE=6):=by show _=_;rw[gp.out,if_pos (by omega)]
   have g8:(l.length:Int)=400:=by omega
   clear gp;obtain⟨nl,sm⟩:∃n,Hid (l.length=n):=⟨_,rfl⟩;rw[sm.out]at d0 gs g8;subst gs;rw[sm.out];go_wp2_with (refine Zj 1 h8 ?_);intro wz z P;have p:=bad wz 6 (by decide) HE z (Zab t gf P (by intro k e;injection e;omega));clear bad H;go_wp2;refine bodyPost_ret (Zag rfl rfl (by kernel_rfl) (by kernel_rfl) z rfl) rfl ?_;exact p.out
  have HE:Hid (QE=0):=by show _=_;rw[gp.out,if_neg (by have:=sb.out;omega)]
  have HL:Hid (QL=l++[x]):=by show _=_;rw[H.out,if_pos HE.out]
  have g8:¬(l.length:Int)=400:=by omega
  clear gp H bad;have b1:w.heap.size+3≤wc.heap.size:=by have:=he.size;have:=ha.size;have:=hc.size;have:=B.size;omega
  obtain⟨_,b4,b2,sq⟩:=RCrts.at (hl.mono RCrt.mono (Zaa t));have a1:=Zb sq;clear sq aq;have sr:=hb.mono Ze (Zaa t);have so:=hp.mono Ze (Zaa t);have ss:=hv.mono (Zaa t);clear s8 sj a6 S T C he ha hc B s0 gz s6 hT gj hr;go_upto_region 17 with fail;refine Zo fun WD sv ak sd=>?_
  have a5:wc.heap.size+1≤WD.heap.size:=by omega
  clear d0;have d0:=(gc.kept sd).cell 0;simp at d0;clear ak;go_wp2_with fail
  go_loopw [12,59] (fun _ i wr=>∃k:Nat,k≤l.length∧i=.int .i64 k∧∃v',Blk wr wc.heap.size 107 #[v']∧OwnSl 5 (RFrom (wc.heap.size+1) RCrt) 79 wr (wc.heap.size+1) v' (l.take k)∧Below wc.heap.size wc wr∧wc.heap.size+1≤wr.heap.size) (fun _ i _=>l.length-(intOf i).toNat)
  case atStart=>exact⟨0,Zf _,rfl,_,sv,OwnSl.nil _ _ _ _ _,sd,a5⟩
  case round =>
   clear sv sd a5;obtain⟨k,hk,rfl,v',hB,s,o,hz⟩:=hrel;have sp:=o.size
   by_cases sg:k<l.length
   ·clear d0;obtain⟨b0,o0,ub,up,uv,rfl,q0,q1,q2,q3,q4,rb,rp,rv⟩:=a1.out k sg;have c0:=Zaa o _ _ q0;have c1:=Zaa o _ _ q1;have c2:=Zaa o _ _ q2;have c3:=Zaa o _ _ q3;have c4:=Zaa o _ _ q4;have rb':=rb.mono Ze (Zaa o);have rp':=rp.mono Ze (Zaa o);have rv':=rv.mono (Zaa o);have Hn:=Zb (Zn sg);have gg:=Zb (show(l.take k).length=k by simp;omega);obtain⟨E1A,E1c,rfl,aj⟩:=id rb;obtain⟨E2A,E2c,rfl,s7⟩:=id rp;obtain⟨E3A,E3c,rfl,aw⟩:=id rv;clear q0 q1 q2 q3 q4 rb rp rv aj s7 aw;generalize l.take k=L at s Hn gg;generalize l[k]=y at *;have g0:=(gc.kept o).cell 0;simp at g0;go_upto_region 20 with fail;refine Zo fun W2 hX au h4=>?_
    have ga:=o.trans (h4.mono sp);have h9:=hB.kept h4;have Z:=s.kept (RFrom.mono RCrt.mono) h4;have F:=s.lt;have rb2:=rb'.mono Ze (Zaa h4);have rp2:=rp'.mono Ze (Zaa h4);have rv2:=rv'.mono (Zaa h4);have b6:=h4.size;obtain⟨nA,nc,rfl⟩:=Z.form;clear c0 c1 c2 c3 c4 g0 rb' rp' rv' au hB s;refine Zt (fun w'=>Below W2.heap.size W2 w') (fun w'=>Blk w' wc.heap.size 107 #[.slice nA L.length nc]∧Blk w' wr.heap.size 79 #[.int .i64 y.hdr.author,.int .i64 y.hdr.round,.slice E1A y.hdr.batches.length E1c,.slice E2A y.hdr.parents.length E2c,.slice E3A y.voters.length E3c]) [6,7] (.q 0 (.q 1 (.q 2 (.l 3 (.l 4 (.l 5 (.qc 6 (.l 7 .nil)))))))) ?_ ?_
    ·exact⟨Zad _,h9.kept (Zad _),hX.kept (Zad _)⟩
    intro W3 r ag
    repeat((first|refine pq (h:=⟨_,fun w' R=>by(have hq:=R.1;have h0:=hq.cell 0;have hx:=R.2;have x0:=hx.cell 0;have x1:=hx.cell 1;have x2:=hx.cell 2;have x3:=hx.cell 3;have x4:=hx.cell 4;simp at h0 x0 x1 x2 x3 x4;go_simp;exact rfl),?_⟩)|refine Zq ?_);simp only[sx])
    refine Zd fun K u=>?_
    try simp only[sy]
    go_simp;refine(Znx _ _ _ _ _ y.hdr.batches y.hdr.parents y.voters _ (rb2.mono Ze (Zaa r)) (rp2.mono Ze (Zaa r)) (rv2.mono (Zaa r))).mono ?_;rintro e w4 ⟨tb,tp,tv,rfl,B,s1,s2,s3⟩;have j:=r.trans (B.mono r.size);obtain⟨A1,c1',rfl,gb⟩:=id s1;obtain⟨A2,c2',rfl,g5⟩:=id s2;obtain⟨A3,c3',rfl,hf⟩:=id s3;clear gb g5 hf;have m:=Z.kept (RFrom.mono RCrt.mono) j;have J:=h9.kept j;have M:=hX.kept j;have su:=j.size;refine u.out _ _ (⟨J,M⟩) fun R=>?_
    clear u K
    try simp only[sx]
    repeat(refine Zq ?_;simp only[sx])
    refine Zd fun K u=>?_
    try simp only[sy]
    go_simp;have O:=Zac w4 (.cells #[.int .i64 y.hdr.author,.int .i64 y.hdr.round,.slice A1 y.hdr.batches.length c1',.slice A2 y.hdr.parents.length c2',.slice A3 y.voters.length c3'] 79);refine u.out _ _ (⟨J.kept O,M.kept O⟩) fun R=>?_
    clear u K
    try simp only[sx]
    repeat(refine Zq ?_;simp only[sx])
    refine Zd fun K u=>?_
    try simp only[sy]
    have rR:RFrom (wc.heap.size+1) RCrt (View.but w4.cell? (Value.slice nA L.length nc).ownBlock) [.int .i64 y.hdr.author,.int .i64 y.hdr.round,.slice A1 y.hdr.batches.length c1',.slice A2 y.hdr.parents.length c2',.slice A3 y.voters.length c3'] y:=by
     have q:VLe (View.from w4.cell? W3.heap.size) (View.from (View.but w4.cell? (Value.slice nA L.length nc).ownBlock) (wc.heap.size+1)):=Zbb (by have:=r.size;omega) (fun g hg=>by have:=(F g hg).2;have:=r.size;omega);exact⟨_,_,_,rfl,s1.mono Ze q,s2.mono Ze q,s3.mono q⟩
    refine Zbh (n:=140737488355328) (RFrom.mono RCrt.mono) y [.int .i64 y.hdr.author,.int .i64 y.hdr.round,.slice A1 y.hdr.batches.length c1',.slice A2 y.hdr.parents.length c2',.slice A3 y.voters.length c3'] Zl1 _ _ rfl rfl m (W:=w4) (Zm _ _) (by omega) rfl rfl rfl rfl rR (Za _) (by rw[gg.out];omega) (by rw[gg.out];omega) (fun v2 w6 V ao D=>?_);have h3:=J.grown D (m.low_ne (by omega));have ho:=M.grown D (fun e=>by have:=(F _ e.symm).2;omega);have ai:(L++[y]).length=k+1:=by rw[Zl,gg.out];rfl
    obtain⟨mA,mc,g7⟩:=V.form;rw[ai]at g7;subst g7;rw[←Hn.out]at V;refine u.out _ _ (⟨h3,ho⟩) fun R=>?_
    clear u K
    try simp only[sx]
    repeat(refine Zq ?_;simp only[sx])
    refine Zc fun K u=>?_
    try simp only[sy]
    refine Zau (n:=1) rfl rfl rfl (by kernel_rfl) rfl h3 (by simp) rfl ?_;intro w7 Y I;have Y:Blk w7 wc.heap.size 107 #[.slice mA (k+1) mc]:=Y;have sf:=V.low RCrt.mono I (by omega);have b3:=ga.size;have U:Below wc.heap.size wc w6:=Zab (ga.trans (j.mono ga.size)) (by omega) D (fun q hq=>by have:=(F q hq).1;omega);have h7:Below wc.heap.size wc w7:=Zab U U.size I (by intro q e;injection e;omega);have al:wc.heap.size+1≤w7.heap.size:=by have:=D.size;have:=I.size;omega
    refine u.out _ _ ?_;clear u K
    try simp only[sx]
    repeat(refine Zq ?_;simp only[sx])
    refine Zai ?_;clear J M h3 ho m V rR O r j Z h9 hX D I;go_wp2;go_roundw
    case rel=>exact⟨k+1,by omega,by go_num,_,Y,sf,h7,al⟩
    case measure=>simp[intOf];omega
   ·have a4:k=l.length:=by omega
    rw[a4,List.take_length]at s;have az:=a4;obtain⟨nA,nc,rfl⟩:=s.form;clear d0 a1;have g9:=sw.kept o;have gr:=h8.kept o;have F:=s.lt;have hj:=t.trans (o.mono gf);go_wp2_with fail;refine Zt (fun w'=>Below wr.heap.size wr w') (fun w'=>Blk w' wc.heap.size 107 #[.slice nA l.length nc]∧Blk w' (w.heap.size+1) 79 #[.int .i64 x.hdr.author,.int .i64 x.hdr.round,.slice bA x.hdr.batches.length bc,.slice pA x.hdr.parents.length pc,.slice vA x.voters.length vc]) [6,7] (.q 0 (.q 1 (.q 2 (.l 3 (.l 4 (.l 5 (.qc 6 (.l 7 .nil)))))))) ?_ ?_
    ·exact⟨Zad _,hB.kept (Zad _),g9.kept (Zad _)⟩
    intro W3 r ag
    repeat((first|refine pq (h:=⟨_,fun w' R=>by(have hq:=R.1;have h0:=hq.cell 0;have hx:=R.2;have x0:=hx.cell 0;have x1:=hx.cell 1;have x2:=hx.cell 2;have x3:=hx.cell 3;have x4:=hx.cell 4;simp at h0 x0 x1 x2 x3 x4;go_simp;exact rfl),?_⟩)|refine Zq ?_);simp only[sx])
    refine Zd fun K u=>?_
    try simp only[sy]
    go_simp;have gy:=Zaa (o.trans (r.mono sp));refine(Znx _ _ _ _ _ x.hdr.batches x.hdr.parents x.voters _ (sr.mono Ze gy) (so.mono Ze gy) (ss.mono gy)).mono ?_;rintro e w4 ⟨tb,tp,tv,rfl,B,s1,s2,s3⟩;have j:=r.trans (B.mono r.size);obtain⟨A1,c1',rfl,gb⟩:=id s1;obtain⟨A2,c2',rfl,g5⟩:=id s2;obtain⟨A3,c3',rfl,hf⟩:=id s3;clear gb g5 hf;have m:=s.kept (RFrom.mono RCrt.mono) j;have J:=hB.kept j;have M:=g9.kept j;have su:=j.size;refine u.out _ _ (⟨J,M⟩) fun R=>?_
    clear u K
    try simp only[sx]
    repeat(refine Zq ?_;simp only[sx])
    refine Zd fun K u=>?_
    try simp only[sy]
    go_simp;have O:=Zac w4 (.cells #[.int .i64 x.hdr.author,.int .i64 x.hdr.round,.slice A1 x.hdr.batches.length c1',.slice A2 x.hdr.parents.length c2',.slice A3 x.voters.length c3'] 79);refine u.out _ _ (⟨J.kept O,M.kept O⟩) fun R=>?_
    clear u K
    try simp only[sx]
    repeat(refine Zq ?_;simp only[sx])
    refine Zd fun K u=>?_
    try simp only[sy]
    have rR:RFrom (wc.heap.size+1) RCrt (View.but w4.cell? (Value.slice nA l.length nc).ownBlock) [.int .i64 x.hdr.author,.int .i64 x.hdr.round,.slice A1 x.hdr.batches.length c1',.slice A2 x.hdr.parents.length c2',.slice A3 x.voters.length c3'] x:=by
     have q:VLe (View.from w4.cell? W3.heap.size) (View.from (View.but w4.cell? (Value.slice nA l.length nc).ownBlock) (wc.heap.size+1)):=Zbb (by have:=r.size;omega) (fun g hg=>by have:=(F g hg).2;have:=r.size;omega);exact⟨_,_,_,rfl,s1.mono Ze q,s2.mono Ze q,s3.mono q⟩
    refine Zbh (n:=140737488355328) (RFrom.mono RCrt.mono) x [.int .i64 x.hdr.author,.int .i64 x.hdr.round,.slice A1 x.hdr.batches.length c1',.slice A2 x.hdr.parents.length c2',.slice A3 x.voters.length c3'] Zl1 _ _ rfl rfl m (W:=w4) (Zm _ _) (by omega) rfl rfl rfl rfl rR (Za _) (by have:=sb.out;omega) (by have:=sb.out;omega) (fun v2 w6 V ao D=>?_);have h3:=J.grown D (m.low_ne (by omega));have ho:=M.grown D (m.low_ne (by omega));obtain⟨N,hN⟩:∃N,Hid ((l++[x]).length=N):=⟨_,rfl⟩;obtain⟨mA,mc,g7⟩:=V.form;rw[hN.out]at g7;subst g7;have gw:=(gr.kept j).grown D (m.low_ne (by omega));refine u.out _ _ (⟨h3,ho⟩) fun R=>?_
    clear u K
    try simp only[sx]
    repeat(refine Zq ?_;simp only[sx])
    refine Zc fun K u=>?_
    try simp only[sy]
    refine Zau (n:=1) rfl rfl rfl (by kernel_rfl) rfl h3 (by simp) rfl ?_;intro w7 Y I;have Y:Blk w7 wc.heap.size 107 #[.slice mA N mc]:=Y;have sf:=V.low RCrt.mono I (by omega);have U:Below w.heap.size w w6:=Zab (hj.trans (j.mono hj.size)) (by have:=hj.size;omega) D (fun q hq=>by have:=(F q hq).1;omega);have h7:Below w.heap.size w w7:=Zab U U.size I (by intro q e;injection e;omega);have st:=gw.grown I (by simp;omega);have d7:=Y.cell 0;simp at d7;refine u.out _ _ ?_;clear u K
    try simp only[sx]
    repeat(refine Zq ?_;simp only[sx])
    refine Zai ?_;clear J M h3 ho m V rR O r j D I gw gr g9 s hB;go_wp2_with (refine Zj 1 st ?_);intro w8 ad sh;have av:=sf.low RCrt.mono sh (by omega);have a2:Below w.heap.size w w8:=Zab h7 h7.size sh (by intro q e;injection e;omega);have ap:=HE.out;have ah:=HL.out;go_wp2;refine bodyPost_ret (Zag rfl rfl (by kernel_rfl) (by kernel_rfl) ad rfl) rfl ?_;exact⟨_,by rw[ap];rfl,a2,by rw[ah];exact av.baseR RCrt.mono (by omega)⟩
def Zlb(c:Crt):Slot:=⟨c.hdr.author,c.hdr.round,hD c.hdr⟩
def Zdl(l:List Sign)(bad:Int)(s:Slot)(n:Int):Bool:=n==bad||Zce l ⟨n,s⟩
def Zmz(l:List Sign)(bad:Int)(c:Crt):Int:=if Zei l≠0 then Zei l else if inB bad (-1) 3 then(if cF c≠0 then cF c else if (c.voters++[c.hdr.author]).all (Zdl l bad (Zlb c))then 0 else 11)else 2
theorem all_get{l:List α}{p:α→Bool}(h:∀j (b:j<l.length),p l[j]=true):l.all p=true:=by
 rw[List.all_eq_true];intro x a;obtain⟨i,hi,rfl⟩:=List.getElem_of_mem a;exact h i hi
theorem all_not{l:List α}{p:α→Bool}(a:k<l.length)(h:p l[k]=false):l.all p=false:=by
 rw[List.all_eq_false];exact⟨l[k],List.getElem_mem a,by simp[h]⟩
theorem Zut(vl:Value)(l:List Sign)(bad:Int)(x:Crt)(vb vp vv:Value)(w:World)(hl:RSigns w.cell? vl l)(hb:RDigs w.cell? vb x.hdr.batches)(hp:RDigs w.cell? vp x.hdr.parents)(hv:RIs w.cell? vv x.voters)(hT:Tabs w.cell?) :
 Calls prog 97 #[vl,.int .i64 bad,.agg #[.int .i64 x.hdr.author,.int .i64 x.hdr.round,vb,vp,vv]] w fun e w'=>e=.returned (.int .i64 (Zmz l bad x))∧Below w.heap.size w w':=by
 obtain⟨A,c,rfl,gr⟩:=id hl;obtain⟨bA,bc,rfl,gy⟩:=id hb;obtain⟨pA,pc,rfl,gs⟩:=id hp;obtain⟨vA,vc,rfl,ha⟩:=id hv;clear gr gy gs ha;obtain⟨Q,hQ⟩:∃q,Hid (Zmz l bad x=q):=⟨_,rfl⟩;have a:Hid (Q=if Zei l≠0 then Zei l else if inB bad (-1) 3 then(if cF x≠0 then cF x else if (x.voters++[x.hdr.author]).all (Zdl l bad (Zlb x))then 0 else 11)else 2):=hQ.out.symm
 have t:Hid (cF x=0→hF x.hdr=0∧x.voters.length≤4):=fun T=>by
  refine⟨Zym T,?_⟩;unfold cF Zhk at T;split at T
  ·rename_i h1;exact absurd T h1
  ·split at T
   ·cases T
   ·omega
 rw[hQ.out];clear hQ;obtain⟨E1,hn⟩:∃q,Hid (Zei l=q):=⟨_,rfl⟩;obtain⟨E2,Y⟩:∃q,Hid (cF x=q):=⟨_,rfl⟩;rw[hn.out,Y.out]at a;rw[Y.out]at t;go_enter func97,ntmps97;go_wp2_with fail;refine Za9 _ _ _ (fun W=>Calls prog _ _ W _) (fun W hk gv hm=>?_);clear gv;have gp:=hm.size;refine(Zf8 _ l _ (hl.mono RSign.mono (Zaa hm))).mono ?_;rintro e w1 ⟨rfl,ga⟩;rw[hn.out];have g:=hm.trans (ga.mono gp);have B:=hk.kept ga;have gm:=g.size
 by_cases h1:E1=0
 rotate_left
 ·have HE:Hid (Q=E1):=by show _=_;rw[a.out];simp[h1]
  clear a;go_wp2;go_ret;exact⟨Zak HE.out.symm,g⟩
 have a:Hid (Q=if inB bad (-1) 3 then(if E2≠0 then E2 else if (x.voters++[x.hdr.author]).all (Zdl l bad (Zlb x))then 0 else 11)else 2):=by show _=_;rw[a.out];simp[h1]
 clear hn;subst h1;go_wp2_with fail;refine(bad_any _ _).mono ?_;rintro e w' ⟨rfl,rfl⟩;cases hbd:inB bad (-1) 3
 ·have HE:Hid (Q=2):=by show _=_;rw[a.out,hbd];rfl
  clear a hbd;go_wp2;go_ret;exact⟨Zak HE.out.symm,g⟩
 have a:Hid (Q=if E2≠0 then E2 else if (x.voters++[x.hdr.author]).all (Zdl l bad (Zlb x))then 0 else 11):=by show _=_;rw[a.out,hbd];rfl
 clear hbd;have q1:=Zaa g;have g0:=B.cell 0;have g1:=B.cell 1;have g2:=B.cell 2;have g3:=B.cell 3;have g4:=B.cell 4;simp at g0 g1 g2 g3 g4;go_wp2_with fail;refine(Zen _ _ _ _ _ x.hdr.batches x.hdr.parents x.voters _ (hb.mono Ze q1) (hp.mono Ze q1) (hv.mono q1)).mono ?_;rintro e w2 ⟨rfl,hw⟩;rw[show Zhk x.hdr.author x.hdr.round x.hdr.batches x.hdr.parents x.voters=E2 from Y.out];have E:=g.trans (hw.mono gm);have I:=B.kept hw;have gj:=E.size;clear g0 g1 g2 g3 g4 q1 B
 by_cases h2:E2=0
 rotate_left
 ·have HE:Hid (Q=E2):=by show _=_;rw[a.out];simp[h2]
  clear a;go_wp2;go_ret;exact⟨Zak HE.out.symm,E⟩
 have o:=Zb (t.out h2);have a:Hid (Q=if (x.voters++[x.hdr.author]).all (Zdl l bad (Zlb x))then 0 else 11):=by show _=_;rw[a.out];simp[h2]
 clear t Y;subst h2;have q2:=Zaa E;have g0:=I.cell 0;have g1:=I.cell 1;have g2:=I.cell 2;have g3:=I.cell 3;simp at g0 g1 g2 g3;go_wp2_with fail;refine(Zby _ _ _ _ x.hdr.batches x.hdr.parents _ (hb.mono Ze q2) (hp.mono Ze q2) (hT.mono q2)).mono ?_;rintro e w3 ⟨d3,rfl,g9,r3⟩;rw[show Zb5 x.hdr.author x.hdr.round x.hdr.batches x.hdr.parents=0 from o.out.1];rw[show Zjq x.hdr.author x.hdr.round x.hdr.batches x.hdr.parents=(Zlb x).digest from if_pos o.out.1]at r3;have h6:=E.trans (g9.mono gj);have R:=I.kept g9;have gq:=h6.size;have r3:=r3.mono (View.from_le _ _);have h3:Hid ((Zlb x).author=x.hdr.author∧(Zlb x).round=x.hdr.round):=⟨rfl,rfl⟩;generalize Zlb x=S at r3 a h3;obtain⟨A3,c3,rfl,ha⟩:=id r3;clear g0 g1 g2 g3 q2 I ha;have g0:=R.cell 0;have g1:=R.cell 1;have g4:=R.cell 4;simp at g0 g1 g4;go_upto_region 11 with fail;refine Zo fun W4 h4 O hf=>?_
 clear O g0 g1 g4;have M:=h6.trans (hf.mono gq);have gi:=M.size;have he:=R.kept hf;have r4:=r3.mono (Zaa hf);have h9:=hv.mono (Zaa M);clear R r3;obtain⟨V,hV⟩:∃V,Hid (x.voters++[x.hdr.author]=V):=⟨_,rfl⟩;rw[hV.out]at a;have gc:=Zb (show V.length≤5 by rw[←hV.out];simp;exact o.out.2);have s9:=o.out.2;have hs:Blk W4 w3.heap.size 85 #[.int .i64 S.author,.int .i64 S.round,.slice A3 S.digest.length c3]:=by rw[h3.out.1,h3.out.2];exact h4
 clear h4 h3 o
 go_cut [48,49,50] (fun v n i w'=>∃A c,v=.slice A V.length c∧n=.int .i64 V.length∧i=.int .i64 0∧RIs w'.cell? (.slice A V.length c) V∧Below W4.heap.size W4 w')
 case first =>
  refine Zr [] (.q 0 (.q 1 (.q 3 (.q 4 (.q 5 (.q 9 (.alt 2 (.l 6 (.l 7 (.q 8 .nil))) 6 (.l 2 (.l 7 (.q 8 .nil)))))))))) fun W5 C=>?_
  repeat((first|refine pq (h:=⟨_,fun w' U=>by(have F:=he.kept U;have T:=F.cell 0;have h4:=F.cell 4;simp at T h4;go_simp;exact rfl),?_⟩)|refine Zq ?_);simp only[sx])
  refine Zcm ?_ ?_
  ·refine Zd fun K s=>?_
   try simp only[sy]
   go_simp;refine(Zhe _ x.voters _ (h9.mono (Zaa C))).mono ?_;rintro e w6 ⟨v6,rfl,J,o6⟩;have u:=C.trans (J.mono C.size);have G:=o6.own.lt;obtain⟨A6,c6,rfl⟩:=o6.form;refine s.out _ _ (u) fun U=>?_
   clear s K
   try simp only[sx]
   repeat((first|refine pq (h:=⟨_,fun w' U=>by(have F:=he.kept U;have T:=F.cell 0;simp at T;go_simp;exact rfl),?_⟩)|refine Zq ?_);simp only[sx])
   refine Zd fun K s=>?_
   try simp only[sy]
   go_simp;have r:=Zac w6 (.cells #[.int .i64 x.hdr.author] 3);have gb:=o6.kept r;have L:(w6.alloc (.cells #[.int .i64 x.hdr.author] 3)).cell? ⟨w6.heap.size,0,none⟩=some (encI x.hdr.author):=(Blk.new w6 3 #[.int .i64 x.hdr.author]).cell 0;have p:=u.trans (r.mono u.size);have X:=C.size;have g7:=J.size;refine s.out _ _ (p) fun U=>?_
   clear s K
   try simp only[sx]
   repeat(refine Zq ?_;simp only[sx])
   refine Zd fun K s=>?_
   try simp only[sy]
   refine Zcp (n:=140737488355328) (ys:=[x.hdr.author]) Zx5 Zis _ _ rfl rfl gb (by simp;omega) rfl (RVec.one x.hdr.author L (by decide)) (by decide) (by simp;omega) (by simp;omega) (fun v8 w8 f h8 _=>?_);rw[hV.out]at f;have P:Below W4.heap.size W4 w8:=Zab p p.size h8 (fun q F=>by have:=(G q F).1;omega);obtain⟨A8,c8,rfl⟩:=f.form;refine s.out _ _ (P) fun U=>?_
   clear s K
   try simp only[sx]
   repeat(refine Zq ?_;simp only[sx])
   refine Zai ?_;have hg:=f.reads (bs:=8) (by have:=gc.out;omega);clear f gb L r;go_wp2_with fail;go_meet;exact⟨A8,c8,rfl,rfl,rfl,hg,P⟩
  ·refine Zd fun K s=>?_
   try simp only[sy]
   go_simp;have r:=Zac W5 (.cells #[.int .i64 x.hdr.author] 3);have L:(W5.alloc (.cells #[.int .i64 x.hdr.author] 3)).cell? ⟨W5.heap.size,0,none⟩=some (encI x.hdr.author):=(Blk.new W5 3 #[.int .i64 x.hdr.author]).cell 0;have p:=C.trans (r.mono C.size);have X:=C.size;refine s.out _ _ (p) fun U=>?_
   clear s K
   try simp only[sx]
   repeat(refine Zq ?_;simp only[sx])
   refine Zd fun K s=>?_
   try simp only[sy]
   go_simp;refine(Zhe _ x.voters _ (h9.mono (Zaa p))).mono ?_;rintro e w6 ⟨v6,rfl,J,o6⟩;have u:=p.trans (J.mono p.size);have G:=o6.own.lt;obtain⟨A6,c6,rfl⟩:=o6.form;have hh:=Zaa J _ _ L;have g7:=J.size;simp at g7;simp at G;refine s.out _ _ (u) fun U=>?_
   clear s K
   try simp only[sx]
   repeat(refine Zq ?_;simp only[sx])
   refine Zd fun K s=>?_
   try simp only[sy]
   refine Zcp (n:=140737488355328) (ys:=[x.hdr.author]) Zx5 Zis _ _ rfl rfl o6 (by simp;omega) rfl (RVec.one x.hdr.author hh (by decide)) (by decide) (by simp;omega) (by simp;omega) (fun v8 w8 f h8 _=>?_);rw[hV.out]at f;have P:Below W4.heap.size W4 w8:=Zab u u.size h8 (fun q F=>by have:=(G q F).1;omega);obtain⟨A8,c8,rfl⟩:=f.form;refine s.out _ _ (P) fun U=>?_
   clear s K
   try simp only[sx]
   repeat(refine Zq ?_;simp only[sx])
   refine Zai ?_;have hg:=f.reads (bs:=8) (by have:=gc.out;omega);clear f o6 L hh r;go_wp2_with fail;go_meet;exact⟨A8,c8,rfl,rfl,rfl,hg,P⟩
 case rest =>
  obtain⟨VA,vc',rfl,rfl,rfl,g5,hc⟩:=hcut;have D:=M.trans (hc.mono gi);have gu:=hs.kept hc;have r5:=r4.mono (Zaa hc);have gx:=hl.mono RSign.mono (Zaa D);have X:=D.size;obtain⟨_,hh,s7,hx⟩:=g5.at;have gw:=Zb hx;clear hx g5 hs r4 h9 he;go_wp2_with fail
  go_loopw [13,50] (fun _ i wr=>∃k:Nat,k≤V.length∧i=.int .i64 k∧(∀j (hj:j<V.length),j<k→Zdl l bad S V[j]=true)∧Below wc.heap.size wc wr) (fun _ i _=>V.length-(intOf i).toNat)
  case atStart=>exact⟨0,Zf _,rfl,fun j hj h=>by omega,Zm _ _⟩
  case round =>
   obtain⟨k,hk,rfl,h5,m⟩:=hrel;have g8:=Zb h5;clear h5;have hz:=D.trans (m.mono X)
   by_cases hr:k<V.length
   ·obtain⟨b0,o0,rfl,e0⟩:=gw.out k hr;have c0:=Zaa m _ _ e0
    have b:Hid (Zdl l bad S V[k]=true→∀j (hj:j<V.length),j<k+1→Zdl l bad S V[j]=true):=fun F j hj s8=>by
     by_cases e:j=k
     ·subst e;exact F
     ·exact g8.out j hj (by omega)
    have d:Hid (Zdl l bad S V[k]=false→Q=11):=fun h=>by rw[a.out,all_not hr h];rfl
    have N:Hid (Zdl l bad S V[k]=(V[k]==bad||Zce l ⟨V[k],S⟩)):=rfl;clear e0;generalize V[k]=y at c0 b d N;have O:=gu.kept m;have s0:=O.cell 0;have s1:=O.cell 1;have s2:=O.cell 2;simp at s0 s1 s2
    by_cases hy:y=bad
    ·have F:=Zb (b.out (by rw[N.out,hy];simp));clear b d N;go_wp2;go_roundw
     case rel=>exact⟨k+1,by omega,by go_num,F.out,m⟩
     case measure=>simp[intOf];omega
    ·obtain⟨Z,hZ⟩:∃z,Hid (Zce l ⟨y,S⟩=z):=⟨_,rfl⟩;have H:Hid (Zdl l bad S y=Z):=by show _=_;rw[N.out,hZ.out];simp[hy]
     clear N;go_wp2_with fail;refine(Zf7 _ l ⟨y,S⟩ _ _ (gx.mono RSign.mono (Zaa m)) (r5.mono (Zaa m))).mono ?_;rintro e w7 ⟨rfl,r⟩;rw[hZ.out];have h7:=m.trans (r.mono m.size);clear s0 s1 s2 c0;cases Z
     ·have HQ:=Zb (d.out H.out);clear b d H hZ;go_wp2;go_ret;exact⟨Zak HQ.out.symm,D.trans (h7.mono X)⟩
     ·have F:=Zb (b.out H.out);clear b d H hZ;go_wp2;go_roundw
      case rel=>exact⟨k+1,by omega,by go_num,F.out,h7⟩
      case measure=>simp[intOf];omega
   ·have HQ:Hid (Q=0):=by show _=_;rw[a.out,all_get (fun j hj=>g8.out j hj (by omega))];rfl
    clear a;go_wp2;go_ret;exact⟨Zak HQ.out.symm,hz⟩
end Go.Proofs.YtbcpbnfojfiekaaGreatDoor
