/- A part of what the last text stands on. -/
import Derived.OwnWalk
import Derived.Test.YtbcpbnfojfiekaaGreatDoorK33
namespace Go.Proofs.YtbcpbnfojfiekaaGreatDoor
open Go.ChangeShapes Go.WideShapes Go.ChangeAt Go.RowKit Go.Proofs.Tryz Qa Qb Qc
set_option linter.all false
set_option maxHeartbeats 20000000
set_option maxRecDepth 100000
variable{w w' W:World}{v:Value}
namespace Fl
theorem Zpe{o:Obj}(h:Below W.heap.size W w):Below W.heap.size W (w.alloc o):=h.trans ((Zac w o).mono h.size)
theorem low_cell{w0:World}{B:Nat}{a:Addr}(c:Below B w0 w')(h:w0.cell? a=some v)(b:a.block<B):w'.cell? a=some v:=(World.cell?_of_block (c.block a.block b)).trans h
def rawC(k a b c:Int)(v:Value):Array Value:=#[.int .i64 k,.int .i64 a,.int .i64 b,.int .i64 c,v]
theorem Zoi(n m:Int)(w:World)(hn:I64 n) :
 Calls prog 48 #[.int .i64 n,.int .i64 m] w fun e w'=>∃v ds,e=.returned v∧Below w.heap.size w w'∧Zan (View.from w'.cell? w.heap.size) v ds:=by
 obtain⟨P,hP⟩:∃P,Hid (Zc4 n 256=P):=⟨_,rfl⟩;have h:=Zbp n 256;rw[hP.out]at h;have H:=Zb (fun w=>h w hn (by decide));clear h hn hP;have e1:=Zaw P;have e2:=Zaw m;generalize Zaq P=U1 at e1;generalize Zaq m=U2 at e2;obtain⟨i0,hi,c,j,f⟩:=info_parts (show(prog.info? 5).map (fun i=>(i.zero,i.size,i.bytes))=some (some (.int .u8 0),1,1) by kernel_rfl);go_enter func48,ntmps48;go_wp2_with (at_make;go_loud (refine wpList_make_full _ rfl _ _ 53 rfl w.heap.size 5 i0 (.int .u8 0) 1 underlying53 hi c j .i64 .i64 _ _ 32 rfl rfl rfl rfl (by rw[f];decide) (by decide) (Za _) ?_));intro w1 l b;have y:OwnB w1 w.heap.size (.slice (some ⟨w.heap.size,0,none⟩) 32 32) (List.replicate 32 0):=⟨by rw[List.length_replicate,show List.map encB (List.replicate 32 0)=(madeCells #[Value.int IntKind.u8 0] 32).toList by kernel_rfl];exact l⟩;have a:Below w.heap.size w w1:=(Chg.of_grown (G:=[]) b (by simp)).below (by simp) (Za _);have x:=a.size;clear l b hi c j f;go_wp2_with fail;refine(H.out _).mono ?_;rintro e w2 ⟨rfl,rfl⟩;go_wp2_with (refine Zec (xs:=List.replicate 32 0) U1 rfl rfl rfl rfl (by kernel_rfl) rfl rfl y (by simp) ?_);intro w3 r s;go_wp2_with (refine Zec (xs:=(List.replicate 32 0).set 0 U1) U2 rfl rfl rfl rfl (by kernel_rfl) rfl rfl r (by simp) ?_);intro w4 o q;go_wp2_with (refine Zec (xs:=((List.replicate 32 0).set 0 U1).set 1 U2) 1 rfl rfl rfl rfl (by kernel_rfl) rfl rfl o (by simp) ?_);intro w5 u t;go_wp2;go_ret;have d:=Zab a a.size s (by intro k e;injection e;omega);have g:=Zab d d.size q (by intro k e;injection e;omega);have p:=Zab g g.size t (by intro k e;injection e;omega);exact⟨_,_,rfl,p,u.from_ (bs:=1) (b0:=w.heap.size) (by simp) (Za _)⟩
theorem tx_any(s:ByteArray)(w:World)(g:s.size≤140737488355328) :
 Calls prog 78 #[.string s] w fun e w'=>∃t:ByteArray,e=.returned (.string t)∧w=w'∧t.size≤20:=by
 by_cases a:s.toList==[]
 ·have f:=Zb a;go_enter func78,ntmps78;go_wp2;go_ret;exact⟨_,rfl,rfl,by decide⟩
 ·have d:(s.toList==[])=false:=by simpa using a
  clear a;go_enter func78,ntmps78;go_wp2_with fail
  have c:∀W,Calls prog 112 #[.string s,.int .i64 20] W fun e w'=>∃t:ByteArray,e=.returned (.string t)∧W=w'∧t.size≤20:=by
   intro W;obtain⟨n,hn⟩:∃n,Hid (s.size=n):=⟨_,rfl⟩
   by_cases b:s.size≤20
   ·have q1:(s.size:Int)≤20:=by omega
    have q2:(min (s.size:Int) 20)=s.size:=by omega
    go_enter func112,ntmps112;go_wp2
    go_ret;refine⟨_,rfl,rfl,?_⟩
    first|omega|(simp;omega)|(rw[ByteArray.size_extract];omega)
   ·have q1:¬(s.size:Int)≤20:=by omega
    have q2:(min (s.size:Int) 20)=20:=by omega
    go_enter func112,ntmps112;go_wp2
    go_ret;refine⟨_,rfl,rfl,?_⟩
    first|(rw[ByteArray.size_extract];omega)|(simp;omega)
  refine(c _).mono ?_;rintro e w' ⟨t,rfl,rfl,ht⟩;go_wp2;go_ret;exact⟨_,rfl,rfl,ht⟩
theorem Zua(n:Int)(w:World)(hn:I64 n) :
 Calls prog 49 #[.int .i64 n] w fun e w'=>∃v vs,e=.returned v∧Below w.heap.size w w'∧RIs (View.from w'.cell? w.heap.size) v vs:=by
 obtain⟨P,hP⟩:∃P,Hid (Zc4 n 5=P):=⟨_,rfl⟩;have h:=Zbp n 5;rw[hP.out]at h;have H:=Zb (fun w=>h w hn (by decide));clear h hn hP;go_enter func49,ntmps49;go_wp2_with fail;refine(H.out _).mono ?_;rintro e w2 ⟨rfl,rfl⟩;go_wp2
 go_loopw [4,5] (fun v ct wr=>∃(k:Nat) (vs:List Int),k≤4∧ct=.int .i64 k∧vs.length≤k∧OwnI wr w.heap.size v vs∧Below w.heap.size w wr) (fun _ ct _=>4-(intOf ct).toNat)
 case atStart=>exact⟨0,[],by omega,rfl,Za _,OwnVec.nil _ _ _ _,Zm _ _⟩
 case round =>
  obtain⟨k,vs,o,rfl,p,a,b⟩:=hrel
  by_cases l:k<4
  ·have f:(k:Int)<4:=by omega
   by_cases hp:(k:Int)=P
   ·have g:((k:Int) != P)=false:=by simpa using hp
    have i:=Zb hp;clear hp;go_wp2;go_roundw
    case rel=>exact⟨k+1,vs,by omega,by go_num,by omega,a,b⟩
    case measure=>simp[intOf];omega
   ·have g:((k:Int) != P)=true:=by simpa using hp
    have i:=Zb hp;have j:=b.size;clear hp;go_wp2_with (at_builtin;refine Zdj (n:=140737488355328) (W:=w) (k:Int) Zx5 Zis _ _ rfl rfl rfl a b (by omega) rfl (Za _) (by omega) (by omega) ?_);intro v' w3 d c m;go_wp2;go_roundw
    case rel=>exact⟨k+1,vs++[(k:Int)],by omega,by go_num,by simp;omega,d,c⟩
    case measure=>simp[intOf];omega
  ·have f:¬(k:Int)<4:=by omega
   go_wp2;go_ret;exact⟨_,rfl,b,vs,a.from_ (bs:=8) (b0:=w.heap.size) (by omega) (Za _)⟩
theorem Zvp(k a b c:Int)(vt:Value)(l:List ByteArray)(w:World)(ha:I64 a)(hb:I64 b)(rt:RTexts w.cell? vt l)(I:∀s∈l,s.size≤140737488355328) :
 Calls prog 46 #[.agg (rawC k a b c vt)] w fun e w'=>∃(x:Bat) (v:Value),e=.returned (.agg #[.int .i64 x.author,.int .i64 x.number,v])∧Below w.heap.size w w'∧RTexts (View.from w'.cell? w.heap.size) v x.txs∧∀s∈x.txs,s.size≤20:=by
 obtain⟨A,lc,rfl,s6,hg⟩:=rt.form;have gl:=Zb hg;have Hs:=Zb I;obtain⟨P1,h3⟩:∃P,Hid (Zc4 a 4=P):=⟨_,rfl⟩;obtain⟨P2,T⟩:∃P,Hid (Zc4 b 9=P):=⟨_,rfl⟩;have h1:=Zbp a 4;have h2:=Zbp b 9;rw[h3.out]at h1;rw[T.out]at h2;have hv:=Zcc b (many:=9) (by decide);rw[T.out]at hv;have H1:=Zb (fun w=>h1 w ha (by decide));have H2:=Zb (fun w=>h2 w hb (by decide));have e2:IntKind.i64.wrap (1+P2)=1+P2:=by rw[IntKind.wrap_i64];omega
 clear h1 h2 h3 T ha hb hg I;unfold rawC;go_enter func46,ntmps46;go_upto_region 1 with fail;refine Za8 _ _ _ _ _ (fun W=>Code.wp _ _ _ _ W) (fun W y N X h5=>?_);have hT:=rt.mono (Zaa h5);clear rt
 go_cut [3] (fun p w'=>∃gb,p=.pointer (some ⟨gb,0,none⟩)∧W.heap.size≤gb∧Blk w' gb 82 #[.int .i64 P1,.int .i64 (1+P2),.slice none 0 0]∧Below W.heap.size W w')
 case first =>
  refine Zt (fun w'=>Below W.heap.size W w') (fun w'=>Below W.heap.size W w') [9] (.q 0 (.q 1 (.q 3 (.q 4 (.alt 2 (.alt 5 (.q 6 (.q 7 (.l 8 (.l 9 .nil)))) 8 (.l 5 (.q 6 (.q 7 (.l 9 .nil))))) 8 (.l 2 (.l 5 (.q 6 (.q 7 (.l 9 .nil)))))))))) ?_ ?_
  ·exact⟨Zad _,Zad _⟩
  intro W3 _ r;have gu:=y.kept r;have gi:=r.size
  repeat((first|refine pq (h:=⟨_,fun w' m=>by(have C:=y.kept m;have g1:=C.cell 1;have g2:=C.cell 2;simp at g1 g2;go_simp;exact rfl),?_⟩)|refine Zq ?_);simp only[sx])
  repeat' (first
   |refine Zcm ?_ ?_
   |(
    refine Zd fun K d=>?_
    try simp only[sy]
    go_simp
    first
     |(
      with_reducible refine(H1.out _).mono ?_
      rintro e wz ⟨rfl,rfl⟩;refine d.out _ _ (by assumption) fun m=>?_
      clear d K
      try simp only[sx]
      repeat(refine Zq ?_;simp only[sx]))
     |(
      with_reducible refine(H2.out _).mono ?_
      rintro e wz ⟨rfl,rfl⟩;refine d.out _ _ (by assumption) fun m=>?_
      clear d K
      try simp only[sx]
      repeat(refine Zq ?_;simp only[sx]))
     |(
      refine d.out _ _ (Zpe (by assumption)) fun m=>?_
      clear d K
      try simp only[sx]
      repeat(refine Zq ?_;simp only[sx]))))
  all_goals
   refine Zai ?_;go_wp2_with fail;go_meet;exact⟨_,rfl,gi,Blk.new W3 82 #[.int .i64 P1,.int .i64 (1+P2),.slice none 0 0],by assumption⟩
 case rest =>
  obtain⟨gb,rfl,gm,D,j⟩:=hcut;obtain⟨w0,gn⟩:∃w0:World,w0=wc:=⟨_,rfl⟩;subst gn;have G:=y.kept j;have ho:=N.kept j;have u:=y.lt;have gr:=N.lt;have g5:=hT.mono (Zaa j);obtain⟨_,_,e3,_,E⟩:=RTexts.form hT;injection e3 with e31 _ e33;subst e31 e33
  have he:Hid (∀k (hk:k<l.length),∃b o,A=some ⟨b,o,none⟩∧w0.cell? ⟨b,o+k,none⟩=some (.string l[k])∧b<gb):=fun k hk=>by
   obtain⟨b,o,ea,hc⟩:=E k hk;exact⟨b,o,ea,Zaa j _ _ hc,Nat.lt_of_lt_of_le (World.block_lt_of_cell? W _ hc) gm⟩
  have s2:=j.size;have s5:=D.lt;clear E gl hT g5 H1 H2 e2 hv y N;go_wp2_with fail
  go_loopw [4] (fun ct wr=>∃(k:Nat) (v:Value) (xs:List ByteArray),k≤l.length∧k≤4∧ct=.int .i64 k∧xs.length≤k∧Hid (∀s∈xs,s.size≤20)∧Blk wr gb 82 #[.int .i64 P1,.int .i64 (1+P2),v]∧OwnS wr (gb+1) v xs∧Below gb w0 wr) (fun ct _=>4-(intOf ct).toNat)
  case atStart=>exact⟨0,_,[],by omega,by omega,rfl,Za _,(fun s I=>by cases I),D,OwnVec.nil _ _ _ _,Zm _ _⟩
  case round =>
   clear D;obtain⟨k,v,xs,hk,s1,rfl,g7,hf,D,g,f⟩:=hrel;have g4:=(G.below f (by omega)).cell 4;simp at g4
   by_cases hz:k<l.length∧k<4
   ·obtain⟨u,gw⟩:=hz;obtain⟨b0,o0,rfl,q0,g8⟩:=he.out k u;have s8:(k:Int)<l.length:=by omega
    have gs:(k:Int)<4:=by omega
    have X:=Hs.out l[k] (List.getElem_mem u);generalize l[k]=s0 at q0 X;obtain⟨vA,vc,rfl⟩:=g.form;have gd:gb<wr.heap.size:=D.lt;go_upto_region 5 with fail;refine Zt (fun w'=>Below wr.heap.size wr w') (fun w'=>Blk w' gb 82 #[.int .i64 P1,.int .i64 (1+P2),.slice vA xs.length vc]∧Below gb w0 w') [11] (.q 0 (.q 1 (.q 2 (.q 3 (.q 4 (.q 5 (.q 6 (.l 7 (.l 8 (.l 9 (.q 10 (.l 11 .nil)))))))))))) ?_ ?_
    ·exact⟨Zad _,D.kept (Zad _),f.trans ((Zad _).mono (by omega))⟩
    intro W3 r R
    repeat((first|refine pq (h:=⟨_,fun w' m=>by(have C:=m.1.cell 2;have hr:=(G.below m.2 (by omega)).cell 4;have ht:=low_cell m.2 q0 g8;simp at C hr;go_simp;exact rfl),?_⟩)|refine Zq ?_);simp only[sx])
    refine Zd fun K d=>?_
    try simp only[sy]
    go_simp;refine(tx_any _ _ X).mono ?_;rintro e w4 ⟨t,rfl,rfl,h6⟩;have Z:=g.kept r;have s4:=r.size;refine d.out _ _ (R) fun m=>?_
    clear d K
    try simp only[sx]
    repeat(refine Zq ?_;simp only[sx])
    refine Zd fun K d=>?_
    try simp only[sy]
    go_simp;have V:=Zac W3 (.cells #[.string t] 9);have g3:(W3.alloc (.cells #[.string t] 9)).cell? ⟨W3.heap.size,0,none⟩=some (encS t):=(Blk.new W3 9 #[.string t]).cell 0;have hw:=R.1.kept V;have hh:=R.2.trans (V.mono (by omega));have z:=Z.kept V;refine d.out _ _ (⟨hw,hh⟩) fun m=>?_
    clear d K
    try simp only[sx]
    refine Zd fun K d=>?_
    try simp only[sy]
    have hj:=z.own.lt;refine Zcp (n:=140737488355328) (ys:=[t]) Zl0 Zir _ _ rfl rfl z (by simp;omega) rfl (RVec.one t g3 (by decide)) (by decide) (by simp;omega) (by simp;omega) (fun v8 w8 hp h4 h8=>?_);clear h8;have F:∀q,(Value.slice vA xs.length vc).ownBlock=some q→gb+1≤q:=fun q C=>(hj q C).1
    have M:=hw.grown h4 (fun e=>by have:=F _ e.symm;omega);have hl:=Zab hh (by simp;omega) h4 (fun q C=>by have:=F q C;omega);obtain⟨v8A,v8c,rfl⟩:=hp.form;refine d.out _ _ (⟨M,hl⟩) fun m=>?_
    clear d K
    try simp only[sx]
    repeat(refine Zq ?_;simp only[sx])
    refine Zc fun K d=>?_
    try simp only[sy]
    refine Zau (n:=1) rfl rfl rfl (by kernel_rfl) rfl M (by simp) rfl ?_;intro w9 L hn;have L:Blk w9 gb 82 #[.int .i64 P1,.int .i64 (1+P2),.slice v8A (xs++[t]).length v8c]:=L;have hx:=Zab hl (by have:=M.lt;omega) hn (fun q C=>by injection C;omega);have gc:=hp.grown hn (by omega)
    have h7:Hid (∀s∈xs++[t],s.size≤20):=fun s I=>by
     rcases List.mem_append.1 I with h|h
     ·exact hf.out s h
     ·rw[Zv h];exact h6
    refine d.out _ _ ?_;clear d K
    try simp only[sx]
    refine Zai ?_;go_wp2;go_roundw
    case rel=>exact⟨k+1,_,xs++[t],by omega,by omega,by go_num,by simp;omega,h7,L,gc,hx⟩
    case measure=>simp[intOf];omega
   ·have i:¬((k:Int)<l.length)∨(k:Int)<l.length∧¬(k:Int)<4:=by omega
    obtain⟨vA,vc,rfl⟩:=g.form;have H:=ho.below f (by omega);have g2:=D.cell 2;simp at g2;have gd:gb<wr.heap.size:=D.lt;have O:Below w.heap.size w wr:=(h5.trans (j.mono (by omega))).trans (f.mono (by omega))
    by_cases h0:xs.length=0
    ·obtain rfl:xs=[]:=List.eq_nil_of_length_eq_zero h0;clear h0 g7
     rcases i with i|⟨i,h9⟩
     all_goals
      have S:=Zac wr (.cells #[.string ⟨#[116]⟩] 9);have gh:=Blk.new wr 9 #[.string ⟨#[116]⟩];have gj:=D.kept S;have gf:=H.kept S;go_wp2_with (refine Zaj (n:=1) rfl rfl rfl rfl (by kernel_rfl) rfl gj (by simp) rfl ?_);intro w2 Q U;have Q:Blk w2 gb 82 #[.int .i64 P1,.int .i64 (1+P2),.slice (some ⟨wr.heap.size,0,none⟩) 1 1]:=Q;have hm:=gf.grown U (by simp;omega);have g6:=(gh.grown U (by simp;omega)).cell 0;have J:=Zab (O.trans (S.mono (by omega))) (by simp;omega) U (by intro q e;injection e;omega);go_wp2_with (first|(refine wpList_load_row rfl 82 _ rfl _ rfl _ _ _ _ Q underlying82 rfl (by kernel_rfl) ?_)|(refine Zj 3 hm ?_));intro w3 Y B;go_wp2;refine bodyPost_ret (Zay rfl rfl (by kernel_rfl) (by kernel_rfl) Y rfl) rfl ?_;refine⟨⟨P1,1+P2,[⟨#[116]⟩]⟩,_,rfl,Zab J J.size B (by intro q e;injection e;omega),RVec.one _ ?_ (by decide),fun s I=>by rw[Zv I];decide⟩;unfold View.from;rw[if_neg (by show ¬wr.heap.size<w.heap.size;omega)];exact B.cell g6 (by simp;omega)
    ·have gz:((xs.length:Int)==0)=false:=by simpa using h0
     rcases i with i|⟨i,h9⟩
     all_goals
      go_wp2_with (first|(refine wpList_load_row rfl 82 _ rfl _ rfl _ _ _ _ D underlying82 rfl (by kernel_rfl) ?_)|(refine Zj 3 H ?_));intro w3 Y B
      go_wp2;refine bodyPost_ret (Zay rfl rfl (by kernel_rfl) (by kernel_rfl) Y rfl) rfl ?_;have gg:=g.grown B (by omega);exact⟨⟨P1,1+P2,xs⟩,_,rfl,Zab O O.size B (by intro q e;injection e;omega),gg.from_ (bs:=16) (b0:=w.heap.size) (by omega) (by omega),hf.out⟩
theorem Zlu(k a b c:Int)(v:Value)(w:World)(ha:I64 a)(hb:I64 b)(hc:I64 c) :
 Calls prog 47 #[.agg (rawC k a b c v)] w fun e w'=>∃(x:Hdr) (vb vp:Value),e=.returned (.agg #[.int .i64 x.author,.int .i64 x.round,vb,vp])∧Below w.heap.size w w'∧RDigs (View.from w'.cell? w.heap.size) vb x.batches∧RDigs (View.from w'.cell? w.heap.size) vp x.parents:=by
 obtain⟨P1,hj⟩:∃P,Hid (Zc4 a 4=P):=⟨_,rfl⟩;obtain⟨P2,he⟩:∃P,Hid (Zc4 b 9=P):=⟨_,rfl⟩;obtain⟨P3,h7⟩:∃P,Hid (Zc4 c 4=P):=⟨_,rfl⟩;obtain⟨P4,h6⟩:∃P,Hid (Zc4 c 2=P):=⟨_,rfl⟩;have h1:=Zbp a 4;have h2:=Zbp b 9;have h3:=Zbp c 4;have h4:=Zbp c 2;rw[hj.out]at h1;rw[he.out]at h2;rw[h7.out]at h3;rw[h6.out]at h4;have gf:=Zcc b (many:=9) (by decide);have gc:=Zcc c (many:=4) (by decide);have D:=Zcc c (many:=2) (by decide);rw[he.out]at gf;rw[h7.out]at gc;rw[h6.out]at D;have H1:=Zb (fun w=>h1 w ha (by decide));have H2:=Zb (fun w=>h2 w hb (by decide));have H3:=Zb (fun w=>h3 w hc (by decide));have H4:=Zb (fun w=>h4 w hc (by decide));have e2:IntKind.i64.wrap (1+P2)=1+P2:=by rw[IntKind.wrap_i64];omega
 have e4:IntKind.i64.wrap (3+P4)=3+P4:=by rw[IntKind.wrap_i64];omega
 have Ha:=Zb ha;have Hc:=Zb hc;clear h1 h2 h3 h4 hj he h7 h6 ha hb hc;unfold rawC;go_enter func47,ntmps47;go_upto_region 1 with fail;refine Za8 _ _ _ _ _ (fun W=>Code.wp _ _ _ _ W) (fun W N h0 s5 hv=>?_)
 go_cut [3] (fun p w'=>∃gb,p=.pointer (some ⟨gb,0,none⟩)∧W.heap.size≤gb∧Blk w' gb 76 #[.int .i64 P1,.int .i64 (1+P2),.slice none 0 0,.slice none 0 0]∧Below W.heap.size W w')
 case first =>
  refine Zt (fun w'=>Below W.heap.size W w') (fun w'=>Below W.heap.size W w') [9] (.q 0 (.q 1 (.q 3 (.q 4 (.alt 2 (.alt 5 (.q 6 (.q 7 (.l 8 (.l 9 .nil)))) 8 (.l 5 (.q 6 (.q 7 (.l 9 .nil))))) 8 (.l 2 (.l 5 (.q 6 (.q 7 (.l 9 .nil)))))))))) ?_ ?_
  ·exact⟨Zad _,Zad _⟩
  intro W3 _ m;have gj:=N.kept m;have ga:=m.size
  repeat((first|refine pq (h:=⟨_,fun w' y=>by(have r:=N.kept y;have g1:=r.cell 1;have g2:=r.cell 2;simp at g1 g2;go_simp;exact rfl),?_⟩)|refine Zq ?_);simp only[sx])
  repeat' (first
   |refine Zcm ?_ ?_
   |(
    refine Zd fun K i=>?_
    try simp only[sy]
    go_simp
    first
     |(
      with_reducible refine(H1.out _).mono ?_
      rintro e wz ⟨rfl,rfl⟩;refine i.out _ _ (by assumption) fun y=>?_
      clear i K
      try simp only[sx]
      repeat(refine Zq ?_;simp only[sx]))
     |(
      with_reducible refine(H2.out _).mono ?_
      rintro e wz ⟨rfl,rfl⟩;refine i.out _ _ (by assumption) fun y=>?_
      clear i K
      try simp only[sx]
      repeat(refine Zq ?_;simp only[sx]))
     |(
      refine i.out _ _ (Zpe (by assumption)) fun y=>?_
      clear i K
      try simp only[sx]
      repeat(refine Zq ?_;simp only[sx]))))
  all_goals
   refine Zai ?_;go_wp2_with fail;go_meet;exact⟨_,rfl,ga,Blk.new W3 76 #[.int .i64 P1,.int .i64 (1+P2),.slice none 0 0,.slice none 0 0],by assumption⟩
 case rest =>
  obtain⟨gb,rfl,s6,F,R⟩:=hcut;obtain⟨w0,gh⟩:∃w0:World,w0=wc:=⟨_,rfl⟩;subst gh;have E:=N.kept R;have Y:=h0.kept R;have gl:=N.lt;have hl:=h0.lt;have gx:=R.size;have s2:=F.lt;clear H1 H2 e2 N h0;go_wp2_with fail
  go_loopw [4] (fun ct wr=>∃(k:Nat) (v:Value) (xs:List (List UInt8)),k≤4∧(k:Int)≤P3∧ct=.int .i64 k∧xs.length≤k∧Blk wr gb 76 #[.int .i64 P1,.int .i64 (1+P2),v,.slice none 0 0]∧OwnSl 1 (RFrom (gb+1) RDig) 53 wr (gb+1) v xs∧Below gb w0 wr) (fun ct _=>4-(intOf ct).toNat)
  case atStart=>exact⟨0,_,[],by omega,by omega,rfl,Za _,F,OwnSl.nil _ _ _ _ _,Zm _ _⟩
  case round =>
   clear F;obtain⟨k,v,xs,gv,s1,rfl,gs,F,f,t⟩:=hrel;have g3:=(E.below t (by omega)).cell 3;simp at g3;go_wp2_with fail;refine(H3.out _).mono ?_;rintro e wz ⟨rfl,rfl⟩
   by_cases gp:(k:Int)<P3
   ·have gd:(k:Int)<3:=by omega
    obtain⟨vA,vc,rfl⟩:=f.form;have g7:gb<wr.heap.size:=F.lt;clear g3;go_upto_region 5 with fail;refine Zt (fun w'=>Below wr.heap.size wr w') (fun w'=>Blk w' gb 76 #[.int .i64 P1,.int .i64 (1+P2),.slice vA xs.length vc,.slice none 0 0]∧Below gb w0 w') [9] (.q 0 (.q 1 (.q 2 (.q 3 (.q 4 (.l 5 (.l 6 (.l 7 (.q 8 (.l 9 .nil)))))))))) ?_ ?_
    ·exact⟨Zad _,F.kept (Zad _),t.trans ((Zad _).mono (by omega))⟩
    intro W3 m J
    repeat((first|refine pq (h:=⟨_,fun w' y=>by(have r:=y.1.cell 2;have hr:=(E.below y.2 (by omega)).cell 3;simp at r hr;go_simp;exact rfl),?_⟩)|refine Zq ?_);simp only[sx])
    refine Zd fun K i=>?_
    try simp only[sy]
    go_simp;refine(Zoi c k _ Hc.out).mono ?_;rintro e w4 ⟨d,ds,rfl,s,D⟩;have g6:=m.size;have C:=J.1.kept s;have A:=J.2.trans (s.mono (by omega));have o:=(f.kept (RFrom.mono Ze) m).kept (RFrom.mono Ze) s;obtain⟨dA,dc,rfl,Z⟩:=id D;clear Z;refine i.out _ _ (⟨C,A⟩) fun y=>?_
    clear i K
    try simp only[sx]
    repeat(refine Zq ?_;simp only[sx])
    refine Zd fun K i=>?_
    try simp only[sy]
    go_simp;have M:=Zac w4 (.cells #[.slice dA ds.length dc] 53);have hh:=C.kept M;have hw:=s.size;have h8:=A.trans (M.mono (by omega));refine i.out _ _ (⟨hh,h8⟩) fun y=>?_
    clear i K
    try simp only[sx]
    refine Zd fun K i=>?_
    try simp only[sy]
    have L:=o.lt
    have rR:RFrom (gb+1) RDig (View.but w4.cell? (Value.slice vA xs.length vc).ownBlock) [.slice dA ds.length dc] ds:=by
     have q:VLe (View.from w4.cell? W3.heap.size) (View.from (View.but w4.cell? (Value.slice vA xs.length vc).ownBlock) (gb+1)):=Zbb (by omega) (fun g hg=>by have:=((f.kept (RFrom.mono Ze) m).lt g hg).2;omega);exact Ze _ _ _ _ ⟨_,rfl,D⟩ q
    refine Zbh (n:=140737488355328) (xs:=xs) (RFrom.mono Ze) ds [.slice dA ds.length dc] Ze2 _ _ rfl rfl o (W:=w4) (Zm _ _) (by omega) rfl rfl rfl rfl rR (Za _) (by omega) (by omega) (fun v8 w8 Q g8 G=>?_);have u:∀q,(Value.slice vA xs.length vc).ownBlock=some q→gb+1≤q:=fun q r=>(L q r).1
    have H:=C.grown G (fun e=>by have:=u _ e.symm;omega);have T:=Zab A (by omega) G (fun q r=>by have:=u q r;omega);obtain⟨v8A,v8c,rfl⟩:=Q.form;refine i.out _ _ (⟨H,T⟩) fun y=>?_
    clear i K
    try simp only[sx]
    repeat(refine Zq ?_;simp only[sx])
    refine Zc fun K i=>?_
    try simp only[sy]
    refine Zau (n:=1) rfl rfl rfl (by kernel_rfl) rfl H (by simp) rfl ?_;intro w9 z O;have z:Blk w9 gb 76 #[.int .i64 P1,.int .i64 (1+P2),.slice v8A (xs++[ds]).length v8c,.slice none 0 0]:=z;have hs:=Zab T (by have:=H.lt;omega) O (fun q r=>by injection r;omega);have h9:=Q.low Ze O (by omega);refine i.out _ _ ?_;clear i K
    try simp only[sx]
    refine Zai ?_;go_wp2;go_roundw
    case rel=>exact⟨k+1,_,xs++[ds],by omega,by omega,by go_num,by simp;omega,z,h9,hs⟩
    case measure=>simp[intOf];omega
   ·obtain⟨w1,hy⟩:∃w1:World,w1=wr:=⟨_,rfl⟩;subst hy;have rb:=f.reads_from (bs:=24) Ze (by omega);obtain⟨bA,bc,rfl⟩:=f.form;have g1:=F.cell 1;simp at g1;have X:=E.below t (by omega);have V:=Y.below t (by omega);have s0:gb<w1.heap.size:=F.lt;have h5:Below w.heap.size w w1:=(hv.trans (R.mono (by omega))).trans (t.mono (by omega));have gu:=t.size;clear f g3 E Y
    by_cases ho:1<1+P2
    ·go_wp2_with fail
     go_loopw [5] (fun ct wr=>∃(k:Nat) (v:Value) (ys:List (List UInt8)),k≤4∧(k:Int)≤3+P4∧ct=.int .i64 k∧ys.length≤k∧Blk wr gb 76 #[.int .i64 P1,.int .i64 (1+P2),.slice bA xs.length bc,v]∧OwnSl 1 (RFrom w1.heap.size RDig) 53 wr w1.heap.size v ys∧Chg [gb] w1 wr) (fun ct _=>4-(intOf ct).toNat)
     case atStart=>exact⟨0,_,[],by omega,by omega,rfl,Za _,F,OwnSl.nil _ _ _ _ _,Chg.refl _ _⟩
     case round =>
      clear F;obtain⟨j,v2,ys,gy,s4,rfl,s3,F,f,S⟩:=hrel;have U:Below gb w1 wr:=S.below (by simp) (by omega);have g3:=(X.below U (by omega)).cell 3;simp at g3;go_wp2_with fail;refine(H4.out _).mono ?_;rintro e wz ⟨rfl,rfl⟩
      by_cases hl:(j:Int)<3+P4
      ·have gd:(j:Int)<4:=by omega
       obtain⟨vA,vc,rfl⟩:=f.form;have g7:=S.size;clear g3;go_upto_region 10 with fail;refine Zt (fun w'=>Below wr.heap.size wr w') (fun w'=>Blk w' gb 76 #[.int .i64 P1,.int .i64 (1+P2),.slice bA xs.length bc,.slice vA ys.length vc]∧Below gb w1 w') [10] (.q 0 (.q 1 (.q 2 (.q 3 (.q 4 (.q 5 (.l 6 (.l 7 (.l 8 (.q 9 (.l 10 .nil))))))))))) ?_ ?_
       ·exact⟨Zad _,F.kept (Zad _),U.trans ((Zad _).mono (by omega))⟩
       intro W3 m J;have e10:IntKind.i64.wrap (10+(j:Int))=((10+j:Nat):Int):=by rw[IntKind.wrap_i64];omega
       repeat((first|refine pq (h:=⟨_,fun w' y=>by(have r:=y.1.cell 3;have hr:=(X.below y.2 (by omega)).cell 1;simp at r hr;go_simp;exact rfl),?_⟩)|refine Zq ?_);simp only[sx])
       refine Zd fun K i=>?_
       try simp only[sy]
       go_simp;refine(Zoi a _ _ Ha.out).mono ?_;rintro e w4 ⟨d,ds,rfl,s,D⟩;have g6:=m.size;have C:=J.1.kept s;have A:=J.2.trans (s.mono (by omega));have o:=(f.kept (RFrom.mono Ze) m).kept (RFrom.mono Ze) s;obtain⟨dA,dc,rfl,Z⟩:=id D;clear Z;refine i.out _ _ (⟨C,A⟩) fun y=>?_
       clear i K
       try simp only[sx]
       repeat(refine Zq ?_;simp only[sx])
       refine Zd fun K i=>?_
       try simp only[sy]
       go_simp;have M:=Zac w4 (.cells #[.slice dA ds.length dc] 53);have hh:=C.kept M;have hw:=s.size;have h8:=A.trans (M.mono (by omega));refine i.out _ _ (⟨hh,h8⟩) fun y=>?_
       clear i K
       try simp only[sx]
       refine Zd fun K i=>?_
       try simp only[sy]
       have L:=o.lt
       have rR:RFrom w1.heap.size RDig (View.but w4.cell? (Value.slice vA ys.length vc).ownBlock) [.slice dA ds.length dc] ds:=by
        have q:VLe (View.from w4.cell? W3.heap.size) (View.from (View.but w4.cell? (Value.slice vA ys.length vc).ownBlock) w1.heap.size):=Zbb (by omega) (fun g hg=>by have:=((f.kept (RFrom.mono Ze) m).lt g hg).2;omega);exact Ze _ _ _ _ ⟨_,rfl,D⟩ q
       refine Zbh (n:=140737488355328) (xs:=ys) (RFrom.mono Ze) ds [.slice dA ds.length dc] Ze2 _ _ rfl rfl o (W:=w4) (Zm _ _) (by omega) rfl rfl rfl rfl rR (Za _) (by omega) (by omega) (fun v8 w8 Q g8 G=>?_);have u:∀q,(Value.slice vA ys.length vc).ownBlock=some q→w1.heap.size≤q:=fun q r=>(L q r).1
       have H:=C.grown G (fun e=>by have:=u _ e.symm;omega);have T:=Zab A (by omega) G (fun q r=>by have:=u q r;omega);obtain⟨v8A,v8c,rfl⟩:=Q.form;refine i.out _ _ (⟨H,T⟩) fun y=>?_
       clear i K
       try simp only[sx]
       repeat(refine Zq ?_;simp only[sx])
       refine Zc fun K i=>?_
       try simp only[sy]
       refine Zau (n:=1) rfl rfl rfl (by kernel_rfl) rfl H (by simp) rfl ?_;intro w9 z O;have z:Blk w9 gb 76 #[.int .i64 P1,.int .i64 (1+P2),.slice bA xs.length bc,.slice v8A (ys++[ds]).length v8c]:=z;have h9:=Q.low Ze O (by omega)
       have hm:Chg [gb] w1 w9:=by
        have c1:=(S.trans (.of_below m (Za _))).trans (.of_below s (Za _));have c2:Chg [gb] w1 w8:=Zo8 c1 G (fun q r=>.inr (u q r));exact Zo8 c2 O (fun q r=>.inl (by injection r with r;subst r;simp))
       refine i.out _ _ ?_;clear i K
       try simp only[sx]
       refine Zai ?_;go_wp2;go_roundw
       case rel=>exact⟨j+1,_,ys++[ds],by omega,by omega,by go_num,by simp;omega,z,h9,hm⟩
       case measure=>simp[intOf];omega
      ·have rp:=f.reads_from (bs:=24) Ze (by omega);obtain⟨pA,pc,rfl⟩:=f.form;have hk:=V.below U (by omega);have hn:=h5.trans (U.mono (by omega));clear f g3;go_wp2_with (first|(refine wpList_load_row rfl 76 _ rfl _ rfl _ _ _ _ F underlying76 rfl (by kernel_rfl) ?_)|(refine Zj 4 hk ?_));intro w3 hf I;go_wp2;refine bodyPost_ret (Zay rfl rfl (by kernel_rfl) (by kernel_rfl) hf rfl) rfl ?_;refine⟨⟨P1,1+P2,xs,ys⟩,_,_,rfl,Zab hn hn.size I (by intro q e;injection e;omega),rb.mono Ze ?_,rp.mono Ze ?_⟩
       ·exact((Zi7 (B:=gb+1) S (by simp)).trans (Zax I (by omega))).trans (Zba (by omega))
       ·exact(Zax I (by omega)).trans (Zba (by omega))
    ·have hz:¬(1+P2>1):=ho;go_wp2_with (first|(refine wpList_load_row rfl 76 _ rfl _ rfl _ _ _ _ F underlying76 rfl (by kernel_rfl) ?_)|(refine Zj 4 V ?_));intro w3 hf I;go_wp2;refine bodyPost_ret (Zay rfl rfl (by kernel_rfl) (by kernel_rfl) hf rfl) rfl ?_;refine⟨⟨P1,1+P2,xs,[]⟩,_,_,rfl,Zab h5 h5.size I (by intro q e;injection e;omega),rb.mono Ze ?_,RSl.nil _ _ _ _⟩;exact(Zax I (by omega)).trans (Zba (by omega))
structure MsgOut (w w':World) (e:Ending):Prop where
 out:∃(m:Msg) (vt vb vp vd cb cp cv:Value),e=.returned (.agg (msgC m vt vb vp vd cb cp cv))∧Below w.heap.size w w'∧RMsg (View.from w'.cell? w.heap.size) m vt vb vp vd cb cp cv∧∀s∈m.bat.txs,s.size≤20
def nilS:Value:=.slice none 0 0
theorem Zr3(k a b c:Int)(v:Value)(l:List ByteArray)(w:World)(hk:I64 k)(ha:I64 a)(hb:I64 b)(hc:I64 c)(rt:RTexts w.cell? v l)(L:∀s∈l,s.size≤140737488355328) :
 Calls prog 27 #[.agg (rawC k a b c v)] w fun e w'=>MsgOut w w' e:=by
 obtain⟨P1,Z⟩:∃P,Hid (Zc4 c 4=P):=⟨_,rfl⟩;obtain⟨P2,Y⟩:∃P,Hid (Zc4 b 4=P):=⟨_,rfl⟩;obtain⟨P3,U⟩:∃P,Hid (Zc4 k 5=P):=⟨_,rfl⟩;have h1:=Zbp c 4;have h2:=Zbp b 4;have h3:=Zbp k 5;rw[Z.out]at h1;rw[Y.out]at h2;rw[U.out]at h3;have h6:=Zcc k (many:=5) (by decide);rw[U.out]at h6;have H1:=Zb (fun w=>h1 w hc (by decide));have H2:=Zb (fun w=>h2 w hb (by decide));have H3:=Zb (fun w=>h3 w hk (by decide));have Ha:=Zb ha;have Hb:=Zb hb;have Hc:=Zb hc;have Hs:=Zb L;have e2:IntKind.i64.wrap (1+P3)=1+P3:=by rw[IntKind.wrap_i64];omega
 clear h1 h2 h3 Z Y U ha hb hc hk L;unfold rawC;go_enter func27,ntmps27;go_upto_region 1 with fail;refine Za8 _ _ _ _ _ (fun W=>Code.wp _ _ _ _ W) (fun W I T gi ho=>?_)
 go_cut [3] (fun p w'=>∃gb,p=.pointer (some ⟨gb,0,none⟩)∧W.heap.size≤gb∧Blk w' gb 90 #[.int .i64 P1,.int .i64 P2,.int .i64 (1+P3),.int .i64 0,.int .i64 0,nilS,.int .i64 0,.int .i64 0,nilS,nilS,.int .i64 0,.int .i64 0,nilS,.int .i64 0,.int .i64 0,nilS,nilS,nilS,.int .i64 0]∧Below W.heap.size W w')
 case first =>
  refine Zt (fun w'=>Below W.heap.size W w') (fun w'=>Below W.heap.size W w') [12] (.q 0 (.q 1 (.q 3 (.q 4 (.q 6 (.q 7 (.alt 2 (.alt 5 (.alt 8 (.q 9 (.q 10 (.l 11 (.l 12 .nil)))) 11 (.l 8 (.q 9 (.q 10 (.l 12 .nil))))) 11 (.l 5 (.l 8 (.q 9 (.q 10 (.l 12 .nil)))))) 11 (.l 2 (.l 5 (.l 8 (.q 9 (.q 10 (.l 12 .nil))))))))))))) ?_ ?_
  ·exact⟨Zad _,Zad _⟩
  intro W3 _ y;have g8:=I.kept y;have hg:=y.size
  repeat((first|refine pq (h:=⟨_,fun w' C=>by(have O:=I.kept C;have g0:=O.cell 0;have g3:=O.cell 3;have g2:=O.cell 2;simp at g0 g3 g2;go_simp;exact rfl),?_⟩)|refine Zq ?_);simp only[sx])
  repeat' (first
   |refine Zcm ?_ ?_
   |(
    refine Zd fun K m=>?_
    try simp only[sy]
    go_simp
    first
     |(
      with_reducible refine(H1.out _).mono ?_
      rintro e wz ⟨rfl,rfl⟩;refine m.out _ _ (by assumption) fun C=>?_
      clear m K
      try simp only[sx]
      repeat(refine Zq ?_;simp only[sx]))
     |(
      with_reducible refine(H2.out _).mono ?_
      rintro e wz ⟨rfl,rfl⟩;refine m.out _ _ (by assumption) fun C=>?_
      clear m K
      try simp only[sx]
      repeat(refine Zq ?_;simp only[sx]))
     |(
      with_reducible refine(H3.out _).mono ?_
      rintro e wz ⟨rfl,rfl⟩;refine m.out _ _ (by assumption) fun C=>?_
      clear m K
      try simp only[sx]
      repeat(refine Zq ?_;simp only[sx]))
     |(
      refine m.out _ _ (Zpe (by assumption)) fun C=>?_
      clear m K
      try simp only[sx]
      refine Za9 _ _ _ (fun W=>Pl.wp _ _ _ _ _ _ _ W) (fun W9 hl gr hy=>?_);have h8:Below W.heap.size W W9:=y.trans (hy.mono y.size)
      repeat(refine Zq ?_;simp only[sx]))))
  all_goals
   refine Zc fun K m=>?_
   try simp only[sy]
   refine Zh 19 hl ?_;intro w7 g6 hj;have hz:Below W.heap.size W w7:=Zab h8 h8.size hj (by intro q e;injection e;omega);refine m.out _ _ ?_;clear m K
   try simp only[sx]
   refine Zai ?_;go_wp2_with fail;go_meet;exact⟨_,rfl,hg,g6,hz⟩
 case rest =>
  obtain⟨gb,rfl,gj,G,R⟩:=hcut;obtain⟨w0,g5⟩:∃w0:World,w0=wc:=⟨_,rfl⟩;subst g5;have i:=I.kept R;have A:=T.kept R;have g9:=I.lt;have gg:=T.lt;have gp:=R.size;have gq:=G.lt;have D:Below w.heap.size w w0:=ho.trans (R.mono (by omega));have g2:=G.cell 2;simp at g2;clear H1 H2 H3 e2 I T;have Q:P3=0∨P3=1∨P3=2∨P3=3∨P3=4:=by omega
  clear h6;have hw:=rt.mono (Zaa D)
  rcases Q with rfl|rfl|rfl|rfl|rfl
  ·go_wp2_with (refine wpList_load_row rfl 93 _ rfl _ rfl _ _ _ _ i underlying93 rfl (by kernel_rfl) ?_);refine(Zvp k a b c v l _ Ha.out Hb.out hw Hs.out).mono ?_
   rintro e w1 ⟨x,vx,rfl,o,rx,hx⟩;obtain⟨xA,xc,rfl,hh⟩:=id rx;clear hh;have z:=G.kept o;have j:=A.kept o;have S:=o.size;clear i g2 G;go_wp2_with (refine Zaj (n:=3) rfl rfl rfl rfl (by kernel_rfl) rfl z (Nat.le_of_ble_eq_true rfl) rfl ?_);intro w2 f g;have f:Blk w2 gb 90 (msgC ⟨P1,P2,1+0,x,⟨0,0,[],[]⟩,⟨0,0,[]⟩,⟨⟨0,0,[],[]⟩,[]⟩,0⟩ (.slice xA x.txs.length xc) nilS nilS nilS nilS nilS nilS):=f;unfold msgC at f;dsimp only at f;have u:=j.grown g (by simp;omega);have t:Below w.heap.size w w2:=Zab (D.trans (o.mono (by omega))) (by omega) g (by intro q e;injection e;omega);have q2:VLe (View.from w1.cell? w0.heap.size) (View.from w2.cell? (w.heap.size+2)):=(Zax g (by omega)).trans (Zba (by omega));have rx2:=rx.mono q2;clear z j;go_wp2_with (first|(refine wpList_load_row rfl 90 _ rfl _ rfl _ _ _ _ f underlying90 rfl (by kernel_rfl) ?_)|(refine Zj 19 u ?_));intro w9 B r;go_wp2;refine bodyPost_ret (Zay rfl rfl (by kernel_rfl) (by kernel_rfl) B rfl) rfl ?_;have q9:VLe (View.from w2.cell? (w.heap.size+2)) (View.from w9.cell? w.heap.size):=(Zax r (by omega)).trans (Zba (by omega));exact⟨⟨⟨P1,P2,1+0,x,⟨0,0,[],[]⟩,⟨0,0,[]⟩,⟨⟨0,0,[],[]⟩,[]⟩,0⟩,_,nilS,nilS,nilS,nilS,nilS,nilS,rfl,Zab t t.size r (by intro q e;injection e;omega),⟨rx2.mono q9,RSl.nil _ _ _ _,RSl.nil _ _ _ _,RVec.nil _ _ _,RSl.nil _ _ _ _,RSl.nil _ _ _ _,RVec.nil _ _ _⟩,hx⟩⟩
  ·go_wp2_with (refine wpList_load_row rfl 93 _ rfl _ rfl _ _ _ _ i underlying93 rfl (by kernel_rfl) ?_);refine(Zlu k a b c v _ Ha.out Hb.out Hc.out).mono ?_
   rintro e w1 ⟨x,vb,vp,rfl,o,rb,rp⟩;obtain⟨bA,bc,rfl,X⟩:=id rb;obtain⟨pA,pc,rfl,V⟩:=id rp;clear X V;have z:=G.kept o;have j:=A.kept o;have S:=o.size;clear i g2 G;go_wp2_with (refine Zaj (n:=4) rfl rfl rfl rfl (by kernel_rfl) rfl z (Nat.le_of_ble_eq_true rfl) rfl ?_);intro w2 f g;have f:Blk w2 gb 90 (msgC ⟨P1,P2,1+1,⟨0,0,[]⟩,x,⟨0,0,[]⟩,⟨⟨0,0,[],[]⟩,[]⟩,0⟩ nilS (.slice bA x.batches.length bc) (.slice pA x.parents.length pc) nilS nilS nilS nilS):=f;unfold msgC at f;dsimp only at f;have u:=j.grown g (by simp;omega);have t:Below w.heap.size w w2:=Zab (D.trans (o.mono (by omega))) (by omega) g (by intro q e;injection e;omega);have q2:VLe (View.from w1.cell? w0.heap.size) (View.from w2.cell? (w.heap.size+2)):=(Zax g (by omega)).trans (Zba (by omega));have rb2:=rb.mono Ze q2;have rp2:=rp.mono Ze q2;clear z j;go_wp2_with (first|(refine wpList_load_row rfl 90 _ rfl _ rfl _ _ _ _ f underlying90 rfl (by kernel_rfl) ?_)|(refine Zj 19 u ?_));intro w9 B r;go_wp2;refine bodyPost_ret (Zay rfl rfl (by kernel_rfl) (by kernel_rfl) B rfl) rfl ?_;have q9:VLe (View.from w2.cell? (w.heap.size+2)) (View.from w9.cell? w.heap.size):=(Zax r (by omega)).trans (Zba (by omega));exact⟨⟨⟨P1,P2,1+1,⟨0,0,[]⟩,x,⟨0,0,[]⟩,⟨⟨0,0,[],[]⟩,[]⟩,0⟩,nilS,_,_,nilS,nilS,nilS,nilS,rfl,Zab t t.size r (by intro q e;injection e;omega),⟨RVec.nil _ _ _,rb2.mono Ze q9,rp2.mono Ze q9,RVec.nil _ _ _,RSl.nil _ _ _ _,RSl.nil _ _ _ _,RVec.nil _ _ _⟩,fun s L=>by cases L⟩⟩
  ·obtain⟨P4,h7⟩:∃P,Hid (Zc4 a 4=P):=⟨_,rfl⟩;obtain⟨P5,F⟩:∃P,Hid (Zc4 b 9=P):=⟨_,rfl⟩;have h4:=Zbp a 4;have Q:=Zbp b 9;rw[h7.out]at h4;rw[F.out]at Q;have H:=Zcc b (many:=9) (by decide);rw[F.out]at H;have e5:IntKind.i64.wrap (1+P5)=1+P5:=by rw[IntKind.wrap_i64];omega
   have H4:=Zb (fun w=>h4 w Ha.out (by decide));have H5:=Zb (fun w=>Q w Hb.out (by decide));clear h4 Q h7 F H;go_upto_region 8 with fail;refine Zt (fun w'=>Below w0.heap.size w0 w') (fun w'=>Below w0.heap.size w0 w') [14] (.q 0 (.q 1 (.q 3 (.q 4 (.q 7 (.q 8 (.q 9 (.q 10 (.l 2 (.l 5 (.q 6 (.l 11 (.q 12 (.q 13 (.l 14 .nil))))))))))))))) ?_ ?_
   ·exact⟨Zad _,Zad _⟩
   intro W3 _ y
   repeat((first|refine pq (h:=⟨_,fun w' C=>by(have O:=i.kept C;have g1:=O.cell 1;have g2:=O.cell 2;have g3:=O.cell 3;simp at g1 g2 g3;go_simp;exact rfl),?_⟩)|refine Zq ?_);simp only[sx])
   refine Zd fun K m=>?_
   try simp only[sy]
   go_simp;refine(H4.out _).mono ?_;rintro e wz ⟨rfl,rfl⟩;refine m.out _ _ (y) fun C=>?_
   clear m K
   try simp only[sx]
   repeat(refine Zq ?_;simp only[sx])
   refine Zd fun K m=>?_
   try simp only[sy]
   go_simp;refine(H5.out _).mono ?_;rintro e wz ⟨rfl,rfl⟩;refine m.out _ _ (y) fun C=>?_
   clear m K
   try simp only[sx]
   repeat(refine Zq ?_;simp only[sx])
   refine Zd fun K m=>?_
   try simp only[sy]
   go_simp;refine(Zoi c a _ Hc.out).mono ?_;rintro e w1 ⟨d,ds,rfl,o,rd⟩;obtain⟨dA,dc,rfl,hf⟩:=id rd;clear hf;have J:=y.size;have E:=y.trans (o.mono J);have z:=G.kept E;have j:=A.kept E;have S:=o.size;refine m.out _ _ (E) fun C=>?_
   clear m K
   try simp only[sx]
   repeat(refine Zq ?_;simp only[sx])
   refine Zc fun K m=>?_
   try simp only[sy]
   refine Zau (n:=3) rfl rfl rfl (by kernel_rfl) rfl z (Nat.le_of_ble_eq_true rfl) rfl ?_;intro w2 f g;have f:Blk w2 gb 90 (msgC ⟨P1,P2,1+2,⟨0,0,[]⟩,⟨0,0,[],[]⟩,⟨P4,1+P5,ds⟩,⟨⟨0,0,[],[]⟩,[]⟩,0⟩ nilS nilS nilS (.slice dA ds.length dc) nilS nilS nilS):=f;unfold msgC at f;dsimp only at f;have u:=j.grown g (by simp;omega);have t:Below w.heap.size w w2:=Zab (D.trans (E.mono (by omega))) (by omega) g (by intro q e;injection e;omega);have q2:VLe (View.from w1.cell? W3.heap.size) (View.from w2.cell? (w.heap.size+2)):=(Zax g (by omega)).trans (Zba (by omega));have rd2:=rd.mono q2;clear i g2 G z j;refine m.out _ _ ?_;clear m K
   try simp only[sx]
   refine Zai ?_;go_wp2_with (first|(refine wpList_load_row rfl 90 _ rfl _ rfl _ _ _ _ f underlying90 rfl (by kernel_rfl) ?_)|(refine Zj 19 u ?_));intro w9 B r;go_wp2;refine bodyPost_ret (Zay rfl rfl (by kernel_rfl) (by kernel_rfl) B rfl) rfl ?_;have q9:VLe (View.from w2.cell? (w.heap.size+2)) (View.from w9.cell? w.heap.size):=(Zax r (by omega)).trans (Zba (by omega));exact⟨⟨⟨P1,P2,1+2,⟨0,0,[]⟩,⟨0,0,[],[]⟩,⟨P4,1+P5,ds⟩,⟨⟨0,0,[],[]⟩,[]⟩,0⟩,nilS,nilS,nilS,_,nilS,nilS,nilS,rfl,Zab t t.size r (by intro q e;injection e;omega),⟨RVec.nil _ _ _,RSl.nil _ _ _ _,RSl.nil _ _ _ _,rd2.mono q9,RSl.nil _ _ _ _,RSl.nil _ _ _ _,RVec.nil _ _ _⟩,fun s L=>by cases L⟩⟩
  ·go_upto_region 10 with fail;refine Zt (fun w'=>Below w0.heap.size w0 w') (fun w'=>Below w0.heap.size w0 w') [7] (.q 0 (.q 2 (.q 3 (.l 1 (.l 4 (.q 5 (.q 6 (.l 7 .nil)))))))) ?_ ?_
   ·exact⟨Zad _,Zad _⟩
   intro W3 _ y;refine pl_q (by assumption) rfl rfl ?_;apply Exists.intro;refine⟨fun w' C=>Zfv 93 _ rfl _ rfl _ _ (0,0) _ (i.kept C) underlying93 rfl (by kernel_rfl),?_⟩;simp only[List.getElem_toArray,List.getElem_cons_zero,List.getElem_cons_succ,Act.put,List.setIfInBounds_toArray,List.set_cons_zero,List.set_cons_succ]
   repeat((first|refine pq (h:=⟨_,fun w' C=>by(have O:=i.kept C;have g3:=O.cell 3;simp at g3;go_simp;exact rfl),?_⟩)|refine Zq ?_);simp only[sx])
   refine Zd fun K m=>?_
   try simp only[sy]
   go_simp;refine(Zlu k a b c v _ Ha.out Hb.out Hc.out).mono ?_;rintro e w1 ⟨x,vb,vp,rfl,o,rb,rp⟩;obtain⟨bA,bc,rfl,X⟩:=id rb;obtain⟨pA,pc,rfl,V⟩:=id rp;clear X V;have J:=y.size;have E:=y.trans (o.mono J);have S:=o.size;refine m.out _ _ (E) fun C=>?_
   clear m K
   try simp only[sx]
   repeat(refine Zq ?_;simp only[sx])
   refine Zd fun K m=>?_
   try simp only[sy]
   go_simp;refine(Zua c _ Hc.out).mono ?_;rintro e w4 ⟨vv,vs,rfl,N,rv⟩;obtain⟨vA,vc,rfl,hv⟩:=id rv;clear hv;have M:=E.trans (N.mono (by omega));have gn:=N.size;have z:=G.kept M;have j:=A.kept M;refine m.out _ _ (M) fun C=>?_
   clear m K
   try simp only[sx]
   repeat(refine Zq ?_;simp only[sx])
   refine Zc fun K m=>?_
   try simp only[sy]
   refine Zau (n:=5) rfl rfl rfl (by kernel_rfl) rfl z (Nat.le_of_ble_eq_true rfl) rfl ?_;intro w2 f g;have f:Blk w2 gb 90 (msgC ⟨P1,P2,1+3,⟨0,0,[]⟩,⟨0,0,[],[]⟩,⟨0,0,[]⟩,⟨x,vs⟩,0⟩ nilS nilS nilS nilS (.slice bA x.batches.length bc) (.slice pA x.parents.length pc) (.slice vA vs.length vc)):=f;unfold msgC at f;dsimp only at f;have u:=j.grown g (by simp;omega);have t:Below w.heap.size w w2:=Zab (D.trans (M.mono (by omega))) (by omega) g (by intro q e;injection e;omega);have q2:VLe (View.from w4.cell? w0.heap.size) (View.from w2.cell? (w.heap.size+2)):=(Zax g (by omega)).trans (Zba (by omega));have rb2:=rb.mono Ze (((Za0 _ (Zaa N)).trans (Zba J)).trans q2);have rp2:=rp.mono Ze (((Za0 _ (Zaa N)).trans (Zba J)).trans q2);have rv2:=rv.mono ((Zba (by omega)).trans q2);clear i g2 G z j;refine m.out _ _ ?_;clear m K
   try simp only[sx]
   refine Zai ?_;go_wp2_with (first|(refine wpList_load_row rfl 90 _ rfl _ rfl _ _ _ _ f underlying90 rfl (by kernel_rfl) ?_)|(refine Zj 19 u ?_));intro w9 B r;go_wp2;refine bodyPost_ret (Zay rfl rfl (by kernel_rfl) (by kernel_rfl) B rfl) rfl ?_;have q9:VLe (View.from w2.cell? (w.heap.size+2)) (View.from w9.cell? w.heap.size):=(Zax r (by omega)).trans (Zba (by omega));exact⟨⟨⟨P1,P2,1+3,⟨0,0,[]⟩,⟨0,0,[],[]⟩,⟨0,0,[]⟩,⟨x,vs⟩,0⟩,nilS,nilS,nilS,nilS,_,_,_,rfl,Zab t t.size r (by intro q e;injection e;omega),⟨RVec.nil _ _ _,RSl.nil _ _ _ _,RSl.nil _ _ _ _,RVec.nil _ _ _,rb2.mono Ze q9,rp2.mono Ze q9,rv2.mono q9⟩,fun s L=>by cases L⟩⟩
  ·obtain⟨P5,F⟩:∃P,Hid (Zc4 b 9=P):=⟨_,rfl⟩;have Q:=Zbp b 9;rw[F.out]at Q;have H:=Zcc b (many:=9) (by decide);rw[F.out]at H;have e5:IntKind.i64.wrap (1+P5)=1+P5:=by rw[IntKind.wrap_i64];omega
   have H5:=Zb (fun w=>Q w Hb.out (by decide));have g22:=i.cell 2;simp at g22;clear Q F H;go_wp2_with fail;refine(H5.out _).mono ?_;rintro e wz ⟨rfl,rfl⟩;clear i g2 g22;go_wp2_with (refine Zaj (n:=1) rfl rfl rfl rfl (by kernel_rfl) rfl G (Nat.le_of_ble_eq_true rfl) rfl ?_);intro w2 f g;have f:Blk w2 gb 90 (msgC ⟨P1,P2,1+4,⟨0,0,[]⟩,⟨0,0,[],[]⟩,⟨0,0,[]⟩,⟨⟨0,0,[],[]⟩,[]⟩,1+P5⟩ nilS nilS nilS nilS nilS nilS nilS):=f;unfold msgC at f;dsimp only at f;have u:=A.grown g (by simp;omega);have t:Below w.heap.size w w2:=Zab D D.size g (by intro q e;injection e;omega);clear G A;go_wp2_with (first|(refine wpList_load_row rfl 90 _ rfl _ rfl _ _ _ _ f underlying90 rfl (by kernel_rfl) ?_)|(refine Zj 19 u ?_));intro w9 B r;go_wp2;refine bodyPost_ret (Zay rfl rfl (by kernel_rfl) (by kernel_rfl) B rfl) rfl ?_;have q9:VLe (View.from w2.cell? (w.heap.size+2)) (View.from w9.cell? w.heap.size):=(Zax r (by omega)).trans (Zba (by omega));exact⟨⟨⟨P1,P2,1+4,⟨0,0,[]⟩,⟨0,0,[],[]⟩,⟨0,0,[]⟩,⟨⟨0,0,[],[]⟩,[]⟩,1+P5⟩,nilS,nilS,nilS,nilS,nilS,nilS,nilS,rfl,Zab t t.size r (by intro q e;injection e;omega),⟨RVec.nil _ _ _,RSl.nil _ _ _ _,RSl.nil _ _ _ _,RVec.nil _ _ _,RSl.nil _ _ _ _,RSl.nil _ _ _ _,RVec.nil _ _ _⟩,fun s L=>by cases L⟩⟩
structure GOk (g:At):Prop where
 k:I64 g.kind
 a:I64 g.node
 b:I64 g.pick
 t:g.text.size≤140737488355328
theorem Zy7(g:At)(w:World)(x:I64 g.node)(y:I64 g.pick) :
 Calls prog 25 #[.agg #[.int .i64 g.kind,.int .i64 g.node,.int .i64 g.pick,.string g.text]] w fun e w'=>∃t:ByteArray,e=.returned (.string t)∧Below w.heap.size w w'∧t.size≤3:=by
 obtain⟨P1,i⟩:∃P,Hid (Zc4 g.node 20=P):=⟨_,rfl⟩;obtain⟨P2,f⟩:∃P,Hid (Zc4 g.pick 20=P):=⟨_,rfl⟩;have o:=Zey g.node 20;have n:=Zey g.pick 20;rw[i.out]at o;rw[f.out]at n;have v:=Zb (fun w=>o w x (by decide));have s:=Zb (fun w=>n w y (by decide));clear o n i f x y;obtain⟨gk,ga,gb,gt⟩:=g;simp only at v s⊢;obtain⟨U1,A⟩:∃U:UInt8,IntKind.u8.wrap (IntKind.i64.wrap (97+P1))=U.toNat:=⟨_,Zaw _⟩;obtain⟨U2,B⟩:∃U:UInt8,IntKind.u8.wrap (IntKind.i64.wrap (97+P2))=U.toNat:=⟨_,Zaw _⟩;go_enter func25,ntmps25;go_upto_region 1 with fail;refine Zo fun W m z k=>?_
 refine Zt (fun w'=>Below W.heap.size W w') (fun w'=>Below W.heap.size W w') [12] (.q 0 (.q 1 (.q 5 (.q 6 (.l 2 (.q 3 (.q 4 (.l 7 (.q 8 (.q 9 (.l 10 (.l 11 (.qc 12 .nil))))))))))))) ?_ ?_
 ·exact⟨Zad _,Zad _⟩
 intro W3 _ b
 repeat((first|refine pq (h:=⟨_,fun w' j=>by(have u:=m.kept j;have g1:=u.cell 1;have g2:=u.cell 2;simp at g1 g2;go_simp;exact rfl),?_⟩)|refine Zq ?_);simp only[sx])
 refine Zd fun K a=>?_
 try simp only[sy]
 go_simp;refine(v.out _).mono ?_;rintro e wz ⟨rfl,rfl⟩;refine a.out _ _ (b) fun j=>?_
 clear a K
 try simp only[sx]
 repeat(refine Zq ?_;simp only[sx])
 refine Zd fun K a=>?_
 try simp only[sy]
 go_simp;refine(s.out _).mono ?_;rintro e wz ⟨rfl,rfl⟩;refine a.out _ _ (b) fun j=>?_
 clear a K
 try simp only[sx]
 repeat(refine Zq ?_;simp only[sx])
 refine Zd fun K a=>?_
 try simp only[sy]
 go_simp;have r:=Zac W3 (.cells #[.int .u8 116,.int .u8 U1.toNat,.int .u8 U2.toNat] 5);have p:=Blk.new W3 5 #[.int .u8 116,.int .u8 U1.toNat,.int .u8 U2.toNat];have d:=b.trans (r.mono b.size);have c:=Zd3 (Zpc (bs:=1) (xs:=[116,U1,U2]) p (by simp) (by simp));simp only[Zu,List.length_nil,Nat.zero_add]at c;refine a.out _ _ (d) fun j=>?_
 clear a K
 try simp only[sx]
 refine Zd fun K a=>?_
 try simp only[sy]
 simp only[Nat.reduceAdd]at c;go_simp;refine a.out _ _ (d) fun j=>?_
 clear a K
 try simp only[sx]
 repeat(refine Zq ?_;simp only[sx])
 refine Zai ?_;go_wp2;go_ret;exact⟨_,rfl,k.trans (d.mono k.size),by rw[Zmj];simp⟩
theorem Zxd(m:Msg):(Zrz m).length≤400:=by
 unfold Zrz;split
 ·rename_i h;exact Zg (msgB_len h).2 (by decide)
 ·simp
structure ActOut (w w':World) (e:Ending):Prop where
 out:∃a:At,e=.returned (.agg #[.int .i64 a.kind,.int .i64 a.node,.int .i64 a.pick,.string a.text])∧Below w.heap.size w w'∧actE a=0
theorem act_ofG(g:At)(w:World)(A:GOk g) :
 Calls prog 11 #[.agg #[.int .i64 g.kind,.int .i64 g.node,.int .i64 g.pick,.string g.text]] w fun e w'=>ActOut w w' e:=by
 obtain⟨P1,H⟩:∃P,Hid (Zc4 g.node 4=P):=⟨_,rfl⟩;obtain⟨K,hK⟩:∃P,Hid (Zc4 g.kind 20=P):=⟨_,rfl⟩;obtain⟨B4,L⟩:∃P,Hid (Zc4 g.pick 400=P):=⟨_,rfl⟩;obtain⟨B7,M⟩:∃P,Hid (Zc4 g.pick 700=P):=⟨_,rfl⟩;have T:=Zey g.node 4;have S:=Zey g.kind 20;have h3:=Zey g.pick 400;have Z:=Zey g.pick 700;have r1:=Zcc g.node (many:=4) (by decide);have r2:=Zcc g.kind (many:=20) (by decide);have r3:=Zcc g.pick (many:=400) (by decide);have r4:=Zcc g.pick (many:=700) (by decide);rw[H.out]at T r1;rw[hK.out]at S r2;rw[L.out]at h3 r3;rw[M.out]at Z r4;have Y:=Zb (fun w=>T w A.a (by decide));have U:=Zb (fun w=>S w A.k (by decide));have y:=Zb (fun w=>h3 w A.b (by decide));have h:=Zb (fun w=>Z w A.b (by decide));have J:=Zb A;have v:=Zb (fun w=>Zy7 g w A.a A.b);have hp:0≤P1∧P1≤3:=by omega
 have F:=Zb hp;have R3:Hid (0≤B4∧B4≤400000):=by show _∧_;omega
 have R4:Hid (0≤B7∧B7≤400000):=by show _∧_;omega
 have N:K=0∨K=1∨K=2∨K=3∨K=4∨K=5∨K=6∨K=7∨K=8∨K=9∨K=10∨K=11∨K=12∨K=13∨K=14∨K=15∨K=16∨K=17∨K=18∨K=19:=by omega
 have l:=Zb N;clear T S h3 Z r1 r2 r3 r4 H hK L M A N hp;obtain⟨gk,ga,gb,gt⟩:=g;simp only at Y U y h v⊢;go_enter func11,ntmps11;go_upto_region 1 with fail;refine Za8 _ _ _ _ _ (fun W=>Code.wp _ _ _ _ W) (fun W o n R j=>?_);have g0:=o.cell 0;have g1:=o.cell 1;simp at g0 g1;go_wp2_with fail;refine(Y.out _).mono ?_;rintro e wz ⟨rfl,rfl⟩;go_wp2_with fail;refine(U.out _).mono ?_;rintro e wz ⟨rfl,rfl⟩;have g2:=o.cell 2;simp at g2;clear g0 g1 Y U;have x:=j.size
 rcases l.out with i|i|i|i|i|i|i|i|i|i|i|i|i|i|i|i|i|i|i|i
 iterate 2
  ·subst i;clear g2 l y h R3 R4;go_wp2_with (refine wpList_load_row rfl 51 _ rfl _ rfl _ _ _ _ o underlying51 rfl (by kernel_rfl) ?_);refine(v.out _).mono ?_;rintro e w3 ⟨t,rfl,r,ht⟩;have u:=n.kept r;have p:=j.trans (r.mono x);go_wp2_with (refine Zj 4 u ?_);intro w9 f c;go_wp2;refine bodyPost_ret (Zay rfl rfl (by kernel_rfl) (by kernel_rfl) f rfl) rfl ?_;exact⟨⟨⟨1,P1,0,t⟩,rfl,Zab p p.size c (by intro q e;injection e;omega),Zwi F.out (by omega)⟩⟩
 iterate 4
  ·subst i;clear g2 l y h R3 R4 v;go_wp2_with (refine Zj 4 n ?_);intro w9 f c;go_wp2;refine bodyPost_ret (Zay rfl rfl (by kernel_rfl) (by kernel_rfl) f rfl) rfl ?_;exact⟨⟨workA P1,rfl,Zab j x c (by intro q e;injection e;omega),workA_E F.out⟩⟩
 iterate 4
  ·subst i;clear g2 l y h R3 R4 v;go_wp2_with (refine Zj 4 n ?_);intro w9 f c;go_wp2;refine bodyPost_ret (Zay rfl rfl (by kernel_rfl) (by kernel_rfl) f rfl) rfl ?_;exact⟨⟨syncA P1,rfl,Zab j x c (by intro q e;injection e;omega),syncA_E F.out⟩⟩
 iterate 2
  ·subst i;clear l v;go_wp2_with fail;refine(y.out _).mono ?_;rintro e wz ⟨rfl,rfl⟩;clear g2;go_wp2_with (refine Zj 4 n ?_);intro w9 f c;go_wp2;refine bodyPost_ret (Zay rfl rfl (by kernel_rfl) (by kernel_rfl) f rfl) rfl ?_;exact⟨⟨takeA B4,rfl,Zab j x c (by intro q e;injection e;omega),takeA_E R3.out⟩⟩
 iterate 1
  ·subst i;clear l v;go_wp2_with fail;refine(y.out _).mono ?_;rintro e wz ⟨rfl,rfl⟩;clear g2;go_wp2_with (refine Zj 4 n ?_);intro w9 f c;go_wp2;refine bodyPost_ret (Zay rfl rfl (by kernel_rfl) (by kernel_rfl) f rfl) rfl ?_;exact⟨⟨⟨5,0,B4,ByteArray.empty⟩,rfl,Zab j x c (by intro q e;injection e;omega),loseA_E R3.out⟩⟩
 iterate 1
  ·subst i;clear l v;go_wp2_with fail;refine(y.out _).mono ?_;rintro e wz ⟨rfl,rfl⟩;clear g2;go_wp2_with (refine Zj 4 n ?_);intro w9 f c;go_wp2;refine bodyPost_ret (Zay rfl rfl (by kernel_rfl) (by kernel_rfl) f rfl) rfl ?_;exact⟨⟨copyA B4,rfl,Zab j x c (by intro q e;injection e;omega),copyA_E R3.out⟩⟩
 iterate 1
  ·subst i;clear l v;go_wp2_with fail;refine(h.out _).mono ?_;rintro e wz ⟨rfl,rfl⟩;clear g2;go_wp2_with (refine Zj 4 n ?_);intro w9 f c;go_wp2;refine bodyPost_ret (Zay rfl rfl (by kernel_rfl) (by kernel_rfl) f rfl) rfl ?_;exact⟨⟨crashA P1 B7,rfl,Zab j x c (by intro q e;injection e;omega),crashA_E F.out R4.out⟩⟩
 iterate 1
  ·subst i;clear g2 l y h R3 R4 v;go_wp2_with (refine Zj 4 n ?_);intro w9 f c;go_wp2;refine bodyPost_ret (Zay rfl rfl (by kernel_rfl) (by kernel_rfl) f rfl) rfl ?_;exact⟨⟨startA P1,rfl,Zab j x c (by intro q e;injection e;omega),Zzm F.out⟩⟩
 ·subst i;clear l v y h R3 R4;have g0:=o.cell 0;have g1:=o.cell 1;have g3:=o.cell 3;simp at g0 g1 g3;go_wp2_with fail;have E:=Zac W (.cells #[.string gt] 9);have D:=(Blk.new W 9 #[.string gt]).cell 0;rw[R]at D;have rt:RTexts (W.alloc (.cells #[.string gt] 9)).cell? (.slice (some ⟨w.heap.size+2,0,none⟩) 1 1) [gt]:=RVec.one gt D (by decide);refine(Zr3 gb ga gb ga _ [gt] _ J.out.b J.out.a J.out.b J.out.a rt (fun s hs=>by rw[Zv hs];exact J.out.t)).mono ?_;rintro e w3 ⟨m,vt,vb,vp,vd,cb,cp,cv,rfl,r,rm,G⟩;have C:=j.trans ((E.trans (r.mono E.size)).mono x);have u:=(n.kept E).kept r;clear rt D g0 g1 g2 g3;go_wp2_with fail;refine(Znv m _ _ _ _ _ _ _ _ (rm.mono (View.from_le _ _)) (fun s hs=>Zg (G s hs) (by decide))).mono ?_;rintro e w4 ⟨d,rfl,p,rd⟩;have z:=C.trans (p.mono C.size);have O:=u.kept p;obtain⟨dA,dc,rfl,Q⟩:=id rd;have I:=Zd3 (rd.mono (View.from_le _ _));have X:=Zxd m;obtain⟨B,hB⟩:∃B,Hid (Zrz m=B):=⟨_,rfl⟩;rw[hB.out]at I X⊢;have V:=z.size;clear Q rd rm G hB;go_wp2_with (refine Zj 4 O ?_);intro w9 f c;go_wp2;refine bodyPost_ret (Zay rfl rfl (by kernel_rfl) (by kernel_rfl) f rfl) rfl ?_;exact⟨⟨Zx3 P1 (bstr B),rfl,Zab z V c (by intro q e;injection e;omega),forgeA_E F.out (by rw[Zmj];omega)⟩⟩
 iterate 3
  ·subst i;clear g2 l y h R3 R4 v;go_wp2_with (refine Zj 4 n ?_);intro w9 f c;go_wp2;refine bodyPost_ret (Zay rfl rfl (by kernel_rfl) (by kernel_rfl) f rfl) rfl ?_;exact⟨⟨flowA,rfl,Zab j x c (by intro q e;injection e;omega),flowA_E⟩⟩
structure ActsOut (w w':World) (e:Ending) (p:List At→Prop):Prop where
 out:∃v l,e=.returned v∧Below w.heap.size w w'∧OwnA w' w.heap.size v l∧p l
theorem acts_ofG(v:Value)(l:List At)(most:Nat)(w:World)(rl:RAts w.cell? v l)(G:∀g∈l,GOk g)(R:most≤1000) :
 Calls prog 5 #[v,.int .i64 most] w fun e w'=>ActsOut w w' e (fun l'=>Acts l'∧l'.length≤most):=by
 obtain⟨A,lc,rfl,h⟩:=id rl;obtain⟨_,N,Q,t⟩:=RAts.at rl;have y:=Zb t;have O:=Zb G;clear t G h rl;go_enter func5,ntmps5;go_wp2
 go_loopw [5,6,7] (fun vr ct _ wr=>∃(k:Nat) (xs:List At),k≤l.length∧k≤most∧ct=.int .i64 k∧xs.length≤k∧Hid (Acts xs)∧OwnA wr w.heap.size vr xs∧Below w.heap.size w wr) (fun _ ct _ _=>most-(intOf ct).toNat)
 case atStart=>exact⟨0,[],by omega,by omega,rfl,Za _,Acts.nil,OwnA.nil _ _,Zm _ _⟩
 case round =>
  obtain⟨k,xs,S,L,rfl,J,s,f,b⟩:=hrel;have K:=b.size
  by_cases u:k<l.length∧k<most
  ·obtain⟨i,I⟩:=u;have M:(k:Int)<l.length:=by omega
   have P:(k:Int)<most:=by omega
   obtain⟨b0,o0,rfl,q0,q1,q2,q3⟩:=y.out k i;have c0:=Zaa b _ _ q0;have c1:=Zaa b _ _ q1;have c2:=Zaa b _ _ q2;have c3:=Zaa b _ _ q3;have B:=Zb (O.out l[k] (List.getElem_mem i));generalize l[k]=g at *;clear q0 q1 q2 q3;go_wp2_with fail;refine(act_ofG g _ B.out).mono ?_;rintro e w3 ⟨a,rfl,q,H⟩;have c:=f.kept q;have m:=b.trans (q.mono K);have E:=m.size;clear c0 c1 c2 c3;obtain⟨vA,vc,rfl⟩:=c.form;have o:=Zac w3 (.cells #[.int .i64 a.kind,.int .i64 a.node,.int .i64 a.pick,.string a.text] 48);have p:=Zac (w3.alloc (.cells #[.int .i64 a.kind,.int .i64 a.node,.int .i64 a.pick,.string a.text] 48)) (.cells #[.int .i64 a.kind,.int .i64 a.node,.int .i64 a.pick,.string a.text] 48);have x:=RAts.ofBlk [a] (Blk.new (w3.alloc (.cells #[.int .i64 a.kind,.int .i64 a.node,.int .i64 a.pick,.string a.text] 48)) 48 #[.int .i64 a.kind,.int .i64 a.node,.int .i64 a.pick,.string a.text]) rfl (by simp);rw[show(w3.alloc (.cells #[.int .i64 a.kind,.int .i64 a.node,.int .i64 a.pick,.string a.text] 48)).heap.size=w3.heap.size+1 from by simp]at x;have j:=m.trans ((o.trans (p.mono o.size)).mono E);have d:=(c.alloc (.cells #[.int .i64 a.kind,.int .i64 a.node,.int .i64 a.pick,.string a.text] 48)).alloc (.cells #[.int .i64 a.kind,.int .i64 a.node,.int .i64 a.pick,.string a.text] 48);go_wp2_with (at_builtin;go_loud (refine Zi5 (xs:=xs) (ys:=[a]) (W:=w) _ _ rfl rfl rfl d j j.size rfl x (by simp;omega) ?_));intro v2 w5 C D z;have r:Hid (Acts (xs++[a])):=s.out.append (Acts.cons H Acts.nil);clear c d x o p z H;go_wp2;go_roundw
   case rel=>exact⟨k+1,xs++[a],by omega,by omega,by go_num,by simp;omega,r,C,D⟩
   case measure=>simp[intOf];omega
  ·have n:¬((k:Int)<l.length)∨(k:Int)<l.length∧¬(k:Int)<most:=by omega
   rcases n with n|⟨n,F⟩
   all_goals
    obtain⟨vA,vc,rfl⟩:=f.form;go_wp2;go_ret;exact⟨⟨_,xs,rfl,b,f,s.out,by omega⟩⟩
end Fl
end Go.Proofs.YtbcpbnfojfiekaaGreatDoor
