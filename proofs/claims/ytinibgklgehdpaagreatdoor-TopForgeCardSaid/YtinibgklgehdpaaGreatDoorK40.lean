/- A part of what the last text stands on. -/
import Derived.OwnWalk
import Derived.Deep.DeepCutAuto
import Derived.Deep.CutBlock
import Derived.Test.YtinibgklgehdpaaGreatDoorK03
import Derived.Test.YtinibgklgehdpaaGreatDoorK09
import Derived.Test.YtinibgklgehdpaaGreatDoorK12
import Derived.Test.YtinibgklgehdpaaGreatDoorK13
import Derived.Test.YtinibgklgehdpaaGreatDoorK39
namespace Go.Proofs.YtinibgklgehdpaaGreatDoor
open Go.ChangeShapes Go.WideShapes Go.ChangeAt Go.RowKit Qa Qb Qc
set_option linter.all false
set_option maxHeartbeats 20000000
set_option maxRecDepth 100000
variable{w w' W:World}{v:Value}
namespace Fl
theorem Zn8{o:Obj}(h:Below W.heap.size W w):Below W.heap.size W (w.alloc o):=h.trans ((Zac w o).mono h.size)
theorem Zxj{w0:World}{B:Nat}{a:Addr}(hb:Below B w0 w')(h:w0.cell? a=some v)(hlt:a.block<B):w'.cell? a=some v:=(World.cell?_of_block (hb.block a.block hlt)).trans h
def rawC(k a b c:Int)(v:Value):Array Value:=#[.int .i64 k,.int .i64 a,.int .i64 b,.int .i64 c,v]
theorem Znf(n m:Int)(w:World)(hn:I64 n) :
 Calls Tryz.prog 76 #[.int .i64 n,.int .i64 m] w fun e w'=>∃v ds,e=.returned v∧Below w.heap.size w w'∧Zao (View.from w'.cell? w.heap.size) v ds:=by
 obtain⟨P,hP⟩:∃P,Hid (Zcw n 256=P):=⟨_,rfl⟩;have h:=Zbp n 256;rw[hP.out]at h;have H:=Lib.hid (fun w=>h w hn (by decide));clear h hn hP;have e1:=Zaw P;have e2:=Zaw m;generalize Zar P=U1 at e1;generalize Zar m=U2 at e2;obtain⟨i0,hi,hz0,hz1,hz2⟩:=info_parts (show(Tryz.prog.info? 5).map (fun i=>(i.zero,i.size,i.bytes))=some (some (.int .u8 0),1,1) by kernel_rfl)
 go_enter Tryz.func76,Tryz.ntmps76
 go_wp2_with (at_make;go_loud (refine wpList_make_full _ rfl _ _ 54 rfl w.heap.size 5 i0 (.int .u8 0) 1 Tryz.underlying54 hi hz0 hz1 .i64 .i64 _ _ 32 rfl rfl rfl rfl (by rw[hz2];decide) (by decide) (Nat.le_refl _) ?_))
 intro w1 ho1 hg1;have ho:OwnB w1 w.heap.size (.slice (some ⟨w.heap.size,0,none⟩) 32 32) (List.replicate 32 0):=⟨by rw[List.length_replicate,show List.map encB (List.replicate 32 0)=(madeCells #[Value.int IntKind.u8 0] 32).toList by kernel_rfl];exact ho1⟩;have hb1:Below w.heap.size w w1:=(Chg.of_grown (G:=[]) hg1 (by simp)).below (by simp) (Nat.le_refl _);have hz1':=hb1.size;clear ho1 hg1 hi hz0 hz1 hz2
 go_wp2_with fail
 refine(H.out _).mono ?_;rintro e w2 ⟨rfl,rfl⟩
 go_wp2_with (refine Zd9 (xs:=List.replicate 32 0) U1 rfl rfl rfl rfl (by kernel_rfl) rfl rfl ho (by simp) ?_)
 intro w3 ho3 hg3
 go_wp2_with (refine Zd9 (xs:=(List.replicate 32 0).set 0 U1) U2 rfl rfl rfl rfl (by kernel_rfl) rfl rfl ho3 (by simp) ?_)
 intro w4 ho4 hg4
 go_wp2_with (refine Zd9 (xs:=((List.replicate 32 0).set 0 U1).set 1 U2) 1 rfl rfl rfl rfl (by kernel_rfl) rfl rfl ho4 (by simp) ?_)
 intro w5 ho5 hg5;go_wp2;go_ret;have hb3:=Zab hb1 hb1.size hg3 (by intro k e;injection e;omega);have hb4:=Zab hb3 hb3.size hg4 (by intro k e;injection e;omega);have hb5:=Zab hb4 hb4.size hg5 (by intro k e;injection e;omega);exact⟨_,_,rfl,hb5,ho5.from_ (bs:=1) (b0:=w.heap.size) (by simp) (Nat.le_refl _)⟩
theorem tx_any(s:ByteArray)(w:World)(hs:s.size≤140737488355328) :
 Calls Tryz.prog 104 #[.string s] w fun e w'=>∃t:ByteArray,e=.returned (.string t)∧w=w'∧t.size≤20:=by
 by_cases h0:s.toList==[]
 ·have H0:=Lib.hid h0
  go_enter Tryz.func104,Tryz.ntmps104
  go_wp2;go_ret;exact⟨_,rfl,rfl,by decide⟩
 ·have h0':(s.toList==[])=false:=by simpa using h0
  clear h0
  go_enter Tryz.func104,Tryz.ntmps104
  go_wp2_with fail
  have hc:∀W,Calls Tryz.prog 133 #[.string s,.int .i64 20] W fun e w'=>∃t:ByteArray,e=.returned (.string t)∧W=w'∧t.size≤20:=by
   intro W;obtain⟨n,hn⟩:∃n,Hid (s.size=n):=⟨_,rfl⟩
   by_cases hle:s.size≤20
   ·have q1:(s.size:Int)≤20:=by omega
    have q2:(min (s.size:Int) 20)=s.size:=by omega
    go_enter Tryz.func133,Tryz.ntmps133
    go_wp2;go_ret;refine⟨_,rfl,rfl,?_⟩
    first|omega|(simp;omega)|(rw[ByteArray.size_extract];omega)
   ·have q1:¬(s.size:Int)≤20:=by omega
    have q2:(min (s.size:Int) 20)=20:=by omega
    go_enter Tryz.func133,Tryz.ntmps133
    go_wp2;go_ret;refine⟨_,rfl,rfl,?_⟩
    first|(rw[ByteArray.size_extract];omega)|(simp;omega)
  refine(hc _).mono ?_;rintro e w' ⟨t,rfl,rfl,ht⟩;go_wp2;go_ret;exact⟨_,rfl,rfl,ht⟩
theorem Zsc(n:Int)(w:World)(hn:I64 n) :
 Calls Tryz.prog 77 #[.int .i64 n] w fun e w'=>∃v vs,e=.returned v∧Below w.heap.size w w'∧RIs (View.from w'.cell? w.heap.size) v vs:=by
 obtain⟨P,hP⟩:∃P,Hid (Zcw n 5=P):=⟨_,rfl⟩;have h:=Zbp n 5;rw[hP.out]at h;have H:=Lib.hid (fun w=>h w hn (by decide));clear h hn hP
 go_enter Tryz.func77,Tryz.ntmps77
 go_wp2_with fail
 refine(H.out _).mono ?_;rintro e w2 ⟨rfl,rfl⟩;go_wp2
 go_loopw [4,5] (fun v ct wr=>∃(k:Nat) (vs:List Int),k≤4∧ct=.int .i64 k∧vs.length≤k∧OwnI wr w.heap.size v vs∧Below w.heap.size w wr) (fun _ ct _=>4-(intOf ct).toNat)
 case atStart=>exact⟨0,[],by omega,rfl,Nat.le_refl _,OwnVec.nil _ _ _ _,Below.refl _ _⟩
 case round =>
  obtain⟨k,vs,hk,rfl,hl,hown,hbl⟩:=hrel
  by_cases hlt:k<4
  ·have hkI:(k:Int)<4:=by omega
   by_cases hp:(k:Int)=P
   ·have hp1:((k:Int) != P)=false:=by simpa using hp
    have Hp:=Lib.hid hp;clear hp;go_wp2;go_roundw
    case rel=>exact⟨k+1,vs,by omega,by go_num,by omega,hown,hbl⟩
    case measure=>simp[intOf];omega
   ·have hp1:((k:Int) != P)=true:=by simpa using hp
    have Hp:=Lib.hid hp;have hzr:=hbl.size;clear hp
    go_wp2_with (at_builtin;refine Zhr (n:=140737488355328) (W:=w) (k:Int) Zvn Zib _ _ rfl rfl rfl hown hbl (by omega) rfl (Nat.le_refl _) (by omega) (by omega) ?_)
    intro v' w3 ho3 hb3 hg3;go_wp2;go_roundw
    case rel=>exact⟨k+1,vs++[(k:Int)],by omega,by go_num,by simp;omega,ho3,hb3⟩
    case measure=>simp[intOf];omega
  ·have hkI:¬(k:Int)<4:=by omega
   go_wp2;go_ret;exact⟨_,rfl,hbl,vs,hown.from_ (bs:=8) (b0:=w.heap.size) (by omega) (Nat.le_refl _)⟩
theorem Ztn(k a b c:Int)(vt:Value)(l:List ByteArray)(w:World)(ha:I64 a)(hb:I64 b)(rt:RTexts w.cell? vt l)(hs:∀s∈l,s.size≤140737488355328) :
 Calls Tryz.prog 74 #[.agg (rawC k a b c vt)] w fun e w'=>∃(x:Bat) (v:Value),e=.returned (.agg #[.int .i64 x.author,.int .i64 x.number,v])∧Below w.heap.size w w'∧RTexts (View.from w'.cell? w.heap.size) v x.txs∧∀s∈x.txs,s.size≤20:=by
 obtain⟨A,lc,rfl,hll,hel⟩:=rt.form;have Hel:=Lib.hid hel;have Hs:=Lib.hid hs;obtain⟨P1,hP1⟩:∃P,Hid (Zcw a 4=P):=⟨_,rfl⟩;obtain⟨P2,hP2⟩:∃P,Hid (Zcw b 9=P):=⟨_,rfl⟩;have h1:=Zbp a 4;have h2:=Zbp b 9;rw[hP1.out]at h1;rw[hP2.out]at h2;have hr2:=Zb2 b (many:=9) (by decide);rw[hP2.out]at hr2;have H1:=Lib.hid (fun w=>h1 w ha (by decide));have H2:=Lib.hid (fun w=>h2 w hb (by decide));have e2:IntKind.i64.wrap (1+P2)=1+P2:=by rw[IntKind.wrap_i64];omega
 clear h1 h2 hP1 hP2 ha hb hel hs;unfold rawC
 go_enter Tryz.func74,Tryz.ntmps74
 go_upto_region 1 with fail
 refine Za6 _ _ _ _ _ (fun W=>Code.wp _ _ _ _ W) (fun W hk1 hk2 hsz hbl=>?_);have hT:=rt.mono (Zaa hbl);clear rt
 go_cut [3] (fun p w'=>∃gb,p=.pointer (some ⟨gb,0,none⟩)∧W.heap.size≤gb∧Blk w' gb 53 #[.int .i64 P1,.int .i64 (1+P2),.slice none 0 0]∧Below W.heap.size W w')
 case first =>
  refine Zt (fun w'=>Below W.heap.size W w') (fun w'=>Below W.heap.size W w') [9] (.q 0 (.q 1 (.q 3 (.q 4 (.alt 2 (.alt 5 (.q 6 (.q 7 (.l 8 (.l 9 .nil)))) 8 (.l 5 (.q 6 (.q 7 (.l 9 .nil))))) 8 (.l 2 (.l 5 (.q 6 (.q 7 (.l 9 .nil)))))))))) ?_ ?_
  ·exact⟨Zad _,Zad _⟩
  intro W3 _ hS3;have hk13:=hk1.kept hS3;have hzz:=hS3.size
  repeat((first|refine pq (h:=⟨_,fun w' hS=>by(have hq:=hk1.kept hS;have g1:=hq.cell 1;have g2:=hq.cell 2;simp at g1 g2;go_simp;exact rfl),?_⟩)|refine Zq ?_);simp only[sx])
  repeat' (first
   |refine Zcl ?_ ?_
   |(
    refine Zd fun K hK=>?_
    try simp only[sy]
    go_simp
    first
     |(
      with_reducible refine(H1.out _).mono ?_
      rintro e wz ⟨rfl,rfl⟩;refine hK.out _ _ (by assumption) fun hS=>?_
      clear hK K
      try simp only[sx]
      repeat(refine Zq ?_;simp only[sx]))
     |(
      with_reducible refine(H2.out _).mono ?_
      rintro e wz ⟨rfl,rfl⟩;refine hK.out _ _ (by assumption) fun hS=>?_
      clear hK K
      try simp only[sx]
      repeat(refine Zq ?_;simp only[sx]))
     |(
      refine hK.out _ _ (Zn8 (by assumption)) fun hS=>?_
      clear hK K
      try simp only[sx]
      repeat(refine Zq ?_;simp only[sx]))))
  all_goals
   refine Zah ?_
   go_wp2_with fail
   go_meet;exact⟨_,rfl,hzz,Blk.new W3 53 #[.int .i64 P1,.int .i64 (1+P2),.slice none 0 0],by assumption⟩
 case rest =>
  obtain⟨gb,rfl,hgz,hB,hbc⟩:=hcut;obtain⟨w0,hw0⟩:∃w0:World,w0=wc:=⟨_,rfl⟩;subst hw0;have hk1c:=hk1.kept hbc;have hk2c:=hk2.kept hbc;have hlt1:=hk1.lt;have hlt2:=hk2.lt;have hT2:=hT.mono (Zaa hbc);obtain⟨_,_,e3,_,hel3⟩:=RTexts.form hT;injection e3 with e31 _ e33;subst e31 e33
  have Hel3:Hid (∀k (hk:k<l.length),∃b o,A=some ⟨b,o,none⟩∧w0.cell? ⟨b,o+k,none⟩=some (.string l[k])∧b<gb):=fun k hk=>by
   obtain⟨b,o,ea,hc⟩:=hel3 k hk;exact⟨b,o,ea,Zaa hbc _ _ hc,Nat.lt_of_lt_of_le (World.block_lt_of_cell? W _ hc) hgz⟩
  have hz0:=hbc.size;have hgb:=hB.lt;clear hel3 Hel hT hT2 H1 H2 e2 hr2 hk1 hk2
  go_wp2_with fail
  go_loopw [4] (fun ct wr=>∃(k:Nat) (v:Value) (xs:List ByteArray),k≤l.length∧k≤4∧ct=.int .i64 k∧xs.length≤k∧Hid (∀s∈xs,s.size≤20)∧Blk wr gb 53 #[.int .i64 P1,.int .i64 (1+P2),v]∧OwnS wr (gb+1) v xs∧Below gb w0 wr) (fun ct _=>4-(intOf ct).toNat)
  case atStart=>exact⟨0,_,[],by omega,by omega,rfl,Nat.le_refl _,(fun s hs=>by cases hs),hB,OwnVec.nil _ _ _ _,Below.refl _ _⟩
  case round =>
   clear hB;obtain⟨k,v,xs,hk,hk4,rfl,hxl,hxs,hB,hown,hbl2⟩:=hrel;have g4:=(hk1c.below hbl2 (by omega)).cell 4;simp at g4
   by_cases hlt:k<l.length∧k<4
   ·obtain⟨hlt1,hlt4⟩:=hlt;obtain⟨b0,o0,rfl,q0,hb0⟩:=Hel3.out k hlt1;have hkI:(k:Int)<l.length:=by omega
    have hkI4:(k:Int)<4:=by omega
    have hsz:=Hs.out l[k] (List.getElem_mem hlt1);generalize l[k]=s0 at q0 hsz;obtain⟨vA,vc,rfl⟩:=hown.form;have hzw:gb<wr.heap.size:=hB.lt
    go_upto_region 5 with fail
    refine Zt (fun w'=>Below wr.heap.size wr w') (fun w'=>Blk w' gb 53 #[.int .i64 P1,.int .i64 (1+P2),.slice vA xs.length vc]∧Below gb w0 w') [11] (.q 0 (.q 1 (.q 2 (.q 3 (.q 4 (.q 5 (.q 6 (.l 7 (.l 8 (.l 9 (.q 10 (.l 11 .nil)))))))))))) ?_ ?_
    ·exact⟨Zad _,hB.kept (Zad _),hbl2.trans ((Zad _).mono (by omega))⟩
    intro W3 hS3 hS0
    repeat((first|refine pq (h:=⟨_,fun w' hS=>by(have hq:=hS.1.cell 2;have hr:=(hk1c.below hS.2 (by omega)).cell 4;have ht:=Zxj hS.2 q0 hb0;simp at hq hr;go_simp;exact rfl),?_⟩)|refine Zq ?_);simp only[sx])
    refine Zd fun K hK=>?_
    try simp only[sy]
    go_simp;refine(tx_any _ _ hsz).mono ?_;rintro e w4 ⟨t,rfl,rfl,ht20⟩;have hown4:=hown.kept hS3;have hz3:=hS3.size;refine hK.out _ _ (hS0) fun hS=>?_
    clear hK K
    try simp only[sx]
    repeat(refine Zq ?_;simp only[sx])
    refine Zd fun K hK=>?_
    try simp only[sy]
    go_simp;have hb5:=Zac W3 (.cells #[.string t] 9);have hn5:(W3.alloc (.cells #[.string t] 9)).cell? ⟨W3.heap.size,0,none⟩=some (encS t):=(Blk.new W3 9 #[.string t]).cell 0;have hX5:=hS0.1.kept hb5;have hL5:=hS0.2.trans (hb5.mono (by omega));have hown5:=hown4.kept hb5;refine hK.out _ _ (⟨hX5,hL5⟩) fun hS=>?_
    clear hK K
    try simp only[sx]
    refine Zd fun K hK=>?_
    try simp only[sy]
    have hlto:=hown5.own.lt;refine Zcn (n:=140737488355328) (ys:=[t]) Zk6 Zia _ _ rfl rfl hown5 (by simp;omega) rfl (RVec.one t hn5 (by decide)) (by decide) (by simp;omega) (by simp;omega) (fun v8 w8 ho8 hg8 hloc=>?_);clear hloc;have hneo:∀q,(Value.slice vA xs.length vc).ownBlock=some q→gb+1≤q:=fun q hq=>(hlto q hq).1
    have hX8:=hX5.grown hg8 (fun e=>by have:=hneo _ e.symm;omega);have hL8:=Zab hL5 (by simp;omega) hg8 (fun q hq=>by have:=hneo q hq;omega);obtain⟨v8A,v8c,rfl⟩:=ho8.form;refine hK.out _ _ (⟨hX8,hL8⟩) fun hS=>?_
    clear hK K
    try simp only[sx]
    repeat(refine Zq ?_;simp only[sx])
    refine Zc fun K hK=>?_
    try simp only[sy]
    refine Zav (n:=1) rfl rfl rfl (by kernel_rfl) rfl hX8 (by simp) rfl ?_;intro w9 hX9 hg9;have hX9:Blk w9 gb 53 #[.int .i64 P1,.int .i64 (1+P2),.slice v8A (xs++[t]).length v8c]:=hX9;have hL9:=Zab hL8 (by have:=hX8.lt;omega) hg9 (fun q hq=>by injection hq;omega);have ho9:=ho8.grown hg9 (by omega)
    have hxs9:Hid (∀s∈xs++[t],s.size≤20):=fun s hs=>by
     rcases List.mem_append.1 hs with h|h
     ·exact hxs.out s h
     ·rw[List.mem_singleton.1 h];exact ht20
    refine hK.out _ _ ?_;clear hK K
    try simp only[sx]
    refine Zah ?_;go_wp2;go_roundw
    case rel=>exact⟨k+1,_,xs++[t],by omega,by omega,by go_num,by simp;omega,hxs9,hX9,ho9,hL9⟩
    case measure=>simp[intOf];omega
   ·have hno:¬((k:Int)<l.length)∨(k:Int)<l.length∧¬(k:Int)<4:=by omega
    obtain⟨vA,vc,rfl⟩:=hown.form;have hk2r:=hk2c.below hbl2 (by omega);have g2:=hB.cell 2;simp at g2;have hzw:gb<wr.heap.size:=hB.lt;have hbw:Below w.heap.size w wr:=(hbl.trans (hbc.mono (by omega))).trans (hbl2.mono (by omega))
    by_cases h0:xs.length=0
    ·obtain rfl:xs=[]:=List.eq_nil_of_length_eq_zero h0;clear h0 hxl
     rcases hno with hno|⟨hno,hno2⟩
     all_goals
      have hba:=Zac wr (.cells #[.string ⟨#[116]⟩] 9);have hna:=Blk.new wr 9 #[.string ⟨#[116]⟩];have hBa:=hB.kept hba;have hka:=hk2r.kept hba
      go_wp2_with (refine Zai (n:=1) rfl rfl rfl rfl (by kernel_rfl) rfl hBa (by simp) rfl ?_)
      intro w2 hB2 hg2;have hB2:Blk w2 gb 53 #[.int .i64 P1,.int .i64 (1+P2),.slice (some ⟨wr.heap.size,0,none⟩) 1 1]:=hB2;have hk22:=hka.grown hg2 (by simp;omega);have hn2:=(hna.grown hg2 (by simp;omega)).cell 0;have hbl4:=Zab (hbw.trans (hba.mono (by omega))) (by simp;omega) hg2 (by intro q e;injection e;omega)
      go_wp2_with (first|(refine wpList_load_row rfl 53 _ rfl _ rfl _ _ _ _ hB2 Tryz.underlying53 rfl (by kernel_rfl) ?_)|(refine Zj 3 hk22 ?_))
      intro w3 hk3 hg3;go_wp2;refine bodyPost_ret (Zay rfl rfl (by kernel_rfl) (by kernel_rfl) hk3 rfl) rfl ?_;refine⟨⟨P1,1+P2,[⟨#[116]⟩]⟩,_,rfl,Zab hbl4 hbl4.size hg3 (by intro q e;injection e;omega),RVec.one _ ?_ (by decide),fun s hs=>by rw[List.mem_singleton.1 hs];decide⟩;unfold View.from;rw[if_neg (by show ¬wr.heap.size<w.heap.size;omega)];exact hg3.cell hn2 (by simp;omega)
    ·have h0b:((xs.length:Int)==0)=false:=by simpa using h0
     rcases hno with hno|⟨hno,hno2⟩
     all_goals
      go_wp2_with (first|(refine wpList_load_row rfl 53 _ rfl _ rfl _ _ _ _ hB Tryz.underlying53 rfl (by kernel_rfl) ?_)|(refine Zj 3 hk2r ?_))
      intro w3 hk3 hg3;go_wp2;refine bodyPost_ret (Zay rfl rfl (by kernel_rfl) (by kernel_rfl) hk3 rfl) rfl ?_;have ho3:=hown.grown hg3 (by omega);exact⟨⟨P1,1+P2,xs⟩,_,rfl,Zab hbw hbw.size hg3 (by intro q e;injection e;omega),ho3.from_ (bs:=16) (b0:=w.heap.size) (by omega) (by omega),hxs.out⟩
theorem Zk0(k a b c:Int)(v:Value)(w:World)(ha:I64 a)(hb:I64 b)(hc:I64 c) :
 Calls Tryz.prog 75 #[.agg (rawC k a b c v)] w fun e w'=>∃(x:Hdr) (vb vp:Value),e=.returned (.agg #[.int .i64 x.author,.int .i64 x.round,vb,vp])∧Below w.heap.size w w'∧RDigs (View.from w'.cell? w.heap.size) vb x.batches∧RDigs (View.from w'.cell? w.heap.size) vp x.parents:=by
 obtain⟨P1,hP1⟩:∃P,Hid (Zcw a 4=P):=⟨_,rfl⟩;obtain⟨P2,hP2⟩:∃P,Hid (Zcw b 9=P):=⟨_,rfl⟩;obtain⟨P3,hP3⟩:∃P,Hid (Zcw c 4=P):=⟨_,rfl⟩;obtain⟨P4,hP4⟩:∃P,Hid (Zcw c 2=P):=⟨_,rfl⟩;have h1:=Zbp a 4;have h2:=Zbp b 9;have h3:=Zbp c 4;have h4:=Zbp c 2;rw[hP1.out]at h1;rw[hP2.out]at h2;rw[hP3.out]at h3;rw[hP4.out]at h4;have hr2:=Zb2 b (many:=9) (by decide);have hr3:=Zb2 c (many:=4) (by decide);have hr4:=Zb2 c (many:=2) (by decide);rw[hP2.out]at hr2;rw[hP3.out]at hr3;rw[hP4.out]at hr4;have H1:=Lib.hid (fun w=>h1 w ha (by decide));have H2:=Lib.hid (fun w=>h2 w hb (by decide));have H3:=Lib.hid (fun w=>h3 w hc (by decide));have H4:=Lib.hid (fun w=>h4 w hc (by decide));have e2:IntKind.i64.wrap (1+P2)=1+P2:=by rw[IntKind.wrap_i64];omega
 have e4:IntKind.i64.wrap (3+P4)=3+P4:=by rw[IntKind.wrap_i64];omega
 have Ha:=Lib.hid ha;have Hc:=Lib.hid hc;clear h1 h2 h3 h4 hP1 hP2 hP3 hP4 ha hb hc;unfold rawC
 go_enter Tryz.func75,Tryz.ntmps75
 go_upto_region 1 with fail
 refine Za6 _ _ _ _ _ (fun W=>Code.wp _ _ _ _ W) (fun W hk1 hk2 hsz hbl=>?_)
 go_cut [3] (fun p w'=>∃gb,p=.pointer (some ⟨gb,0,none⟩)∧W.heap.size≤gb∧Blk w' gb 51 #[.int .i64 P1,.int .i64 (1+P2),.slice none 0 0,.slice none 0 0]∧Below W.heap.size W w')
 case first =>
  refine Zt (fun w'=>Below W.heap.size W w') (fun w'=>Below W.heap.size W w') [9] (.q 0 (.q 1 (.q 3 (.q 4 (.alt 2 (.alt 5 (.q 6 (.q 7 (.l 8 (.l 9 .nil)))) 8 (.l 5 (.q 6 (.q 7 (.l 9 .nil))))) 8 (.l 2 (.l 5 (.q 6 (.q 7 (.l 9 .nil)))))))))) ?_ ?_
  ·exact⟨Zad _,Zad _⟩
  intro W3 _ hS3;have hk13:=hk1.kept hS3;have hzz:=hS3.size
  repeat((first|refine pq (h:=⟨_,fun w' hS=>by(have hq:=hk1.kept hS;have g1:=hq.cell 1;have g2:=hq.cell 2;simp at g1 g2;go_simp;exact rfl),?_⟩)|refine Zq ?_);simp only[sx])
  repeat' (first
   |refine Zcl ?_ ?_
   |(
    refine Zd fun K hK=>?_
    try simp only[sy]
    go_simp
    first
     |(
      with_reducible refine(H1.out _).mono ?_
      rintro e wz ⟨rfl,rfl⟩;refine hK.out _ _ (by assumption) fun hS=>?_
      clear hK K
      try simp only[sx]
      repeat(refine Zq ?_;simp only[sx]))
     |(
      with_reducible refine(H2.out _).mono ?_
      rintro e wz ⟨rfl,rfl⟩;refine hK.out _ _ (by assumption) fun hS=>?_
      clear hK K
      try simp only[sx]
      repeat(refine Zq ?_;simp only[sx]))
     |(
      refine hK.out _ _ (Zn8 (by assumption)) fun hS=>?_
      clear hK K
      try simp only[sx]
      repeat(refine Zq ?_;simp only[sx]))))
  all_goals
   refine Zah ?_
   go_wp2_with fail
   go_meet;exact⟨_,rfl,hzz,Blk.new W3 51 #[.int .i64 P1,.int .i64 (1+P2),.slice none 0 0,.slice none 0 0],by assumption⟩
 case rest =>
  obtain⟨gb,rfl,hgz,hB,hbc⟩:=hcut;obtain⟨w0,hw0⟩:∃w0:World,w0=wc:=⟨_,rfl⟩;subst hw0;have hk1c:=hk1.kept hbc;have hk2c:=hk2.kept hbc;have hlt1:=hk1.lt;have hlt2:=hk2.lt;have hz0:=hbc.size;have hgb:=hB.lt;clear H1 H2 e2 hk1 hk2
  go_wp2_with fail
  go_loopw [4] (fun ct wr=>∃(k:Nat) (v:Value) (xs:List (List UInt8)),k≤4∧(k:Int)≤P3∧ct=.int .i64 k∧xs.length≤k∧Blk wr gb 51 #[.int .i64 P1,.int .i64 (1+P2),v,.slice none 0 0]∧OwnSl 1 (RFrom (gb+1) RDig) 54 wr (gb+1) v xs∧Below gb w0 wr) (fun ct _=>4-(intOf ct).toNat)
  case atStart=>exact⟨0,_,[],by omega,by omega,rfl,Nat.le_refl _,hB,OwnSl.nil _ _ _ _ _,Below.refl _ _⟩
  case round =>
   clear hB;obtain⟨k,v,xs,hk4,hkP,rfl,hxl,hB,hown,hbl2⟩:=hrel;have g3:=(hk1c.below hbl2 (by omega)).cell 3;simp at g3
   go_wp2_with fail
   refine(H3.out _).mono ?_;rintro e wz ⟨rfl,rfl⟩
   by_cases hlt:(k:Int)<P3
   ·have hkI:(k:Int)<3:=by omega
    obtain⟨vA,vc,rfl⟩:=hown.form;have hzw:gb<wr.heap.size:=hB.lt;clear g3
    go_upto_region 5 with fail
    refine Zt (fun w'=>Below wr.heap.size wr w') (fun w'=>Blk w' gb 51 #[.int .i64 P1,.int .i64 (1+P2),.slice vA xs.length vc,.slice none 0 0]∧Below gb w0 w') [9] (.q 0 (.q 1 (.q 2 (.q 3 (.q 4 (.l 5 (.l 6 (.l 7 (.q 8 (.l 9 .nil)))))))))) ?_ ?_
    ·exact⟨Zad _,hB.kept (Zad _),hbl2.trans ((Zad _).mono (by omega))⟩
    intro W3 hS3 hS0
    repeat((first|refine pq (h:=⟨_,fun w' hS=>by(have hq:=hS.1.cell 2;have hr:=(hk1c.below hS.2 (by omega)).cell 3;simp at hq hr;go_simp;exact rfl),?_⟩)|refine Zq ?_);simp only[sx])
    refine Zd fun K hK=>?_
    try simp only[sy]
    go_simp;refine(Znf c k _ Hc.out).mono ?_;rintro e w4 ⟨d,ds,rfl,hb4,hr4⟩;have hz3:=hS3.size;have hX4:=hS0.1.kept hb4;have hL4:=hS0.2.trans (hb4.mono (by omega));have hown4:=(hown.kept (RFrom.mono RDig.mono) hS3).kept (RFrom.mono RDig.mono) hb4;obtain⟨dA,dc,rfl,hfd⟩:=id hr4;clear hfd;refine hK.out _ _ (⟨hX4,hL4⟩) fun hS=>?_
    clear hK K
    try simp only[sx]
    repeat(refine Zq ?_;simp only[sx])
    refine Zd fun K hK=>?_
    try simp only[sy]
    go_simp;have hb5:=Zac w4 (.cells #[.slice dA ds.length dc] 54);have hX5:=hX4.kept hb5;have hz4:=hb4.size;have hL5:=hL4.trans (hb5.mono (by omega));refine hK.out _ _ (⟨hX5,hL5⟩) fun hS=>?_
    clear hK K
    try simp only[sx]
    refine Zd fun K hK=>?_
    try simp only[sy]
    have hlto:=hown4.lt
    have rR:RFrom (gb+1) RDig (View.but w4.cell? (Value.slice vA xs.length vc).ownBlock) [.slice dA ds.length dc] ds:=by
     have q:VLe (View.from w4.cell? W3.heap.size) (View.from (View.but w4.cell? (Value.slice vA xs.length vc).ownBlock) (gb+1)):=Zbb (by omega) (fun g hg=>by have:=((hown.kept (RFrom.mono RDig.mono) hS3).lt g hg).2;omega);exact RDig.mono _ _ _ _ ⟨_,rfl,hr4⟩ q
    refine Zbg (n:=140737488355328) (xs:=xs) (RFrom.mono RDig.mono) ds [.slice dA ds.length dc] Zez _ _ rfl rfl hown4 (W:=w4) (Below.refl _ _) (by omega) rfl rfl rfl rfl rR (Nat.le_refl _) (by omega) (by omega) (fun v8 w8 ho8 hb8 hg8=>?_);have hneo:∀q,(Value.slice vA xs.length vc).ownBlock=some q→gb+1≤q:=fun q hq=>(hlto q hq).1
    have hX8:=hX4.grown hg8 (fun e=>by have:=hneo _ e.symm;omega);have hL8:=Zab hL4 (by omega) hg8 (fun q hq=>by have:=hneo q hq;omega);obtain⟨v8A,v8c,rfl⟩:=ho8.form;refine hK.out _ _ (⟨hX8,hL8⟩) fun hS=>?_
    clear hK K
    try simp only[sx]
    repeat(refine Zq ?_;simp only[sx])
    refine Zc fun K hK=>?_
    try simp only[sy]
    refine Zav (n:=1) rfl rfl rfl (by kernel_rfl) rfl hX8 (by simp) rfl ?_;intro w9 hX9 hg9;have hX9:Blk w9 gb 51 #[.int .i64 P1,.int .i64 (1+P2),.slice v8A (xs++[ds]).length v8c,.slice none 0 0]:=hX9;have hL9:=Zab hL8 (by have:=hX8.lt;omega) hg9 (fun q hq=>by injection hq;omega);have ho9:=ho8.low RDig.mono hg9 (by omega);refine hK.out _ _ ?_;clear hK K
    try simp only[sx]
    refine Zah ?_;go_wp2;go_roundw
    case rel=>exact⟨k+1,_,xs++[ds],by omega,by omega,by go_num,by simp;omega,hX9,ho9,hL9⟩
    case measure=>simp[intOf];omega
   ·obtain⟨w1,hw1⟩:∃w1:World,w1=wr:=⟨_,rfl⟩;subst hw1;have rb:=hown.reads_from (bs:=24) RDig.mono (by omega);obtain⟨bA,bc,rfl⟩:=hown.form;have g1:=hB.cell 1;simp at g1;have hk1w:=hk1c.below hbl2 (by omega);have hk2w:=hk2c.below hbl2 (by omega);have hgw:gb<w1.heap.size:=hB.lt;have hbw:Below w.heap.size w w1:=(hbl.trans (hbc.mono (by omega))).trans (hbl2.mono (by omega));have hz1:=hbl2.size;clear hown g3 hk1c hk2c
    by_cases hone:1<1+P2
    ·go_wp2_with fail
     go_loopw [5] (fun ct wr=>∃(k:Nat) (v:Value) (ys:List (List UInt8)),k≤4∧(k:Int)≤3+P4∧ct=.int .i64 k∧ys.length≤k∧Blk wr gb 51 #[.int .i64 P1,.int .i64 (1+P2),.slice bA xs.length bc,v]∧OwnSl 1 (RFrom w1.heap.size RDig) 54 wr w1.heap.size v ys∧Chg [gb] w1 wr) (fun ct _=>4-(intOf ct).toNat)
     case atStart=>exact⟨0,_,[],by omega,by omega,rfl,Nat.le_refl _,hB,OwnSl.nil _ _ _ _ _,Chg.refl _ _⟩
     case round =>
      clear hB;obtain⟨j,v2,ys,hj4,hjP,rfl,hyl,hB,hown,hch⟩:=hrel;have hb1:Below gb w1 wr:=hch.below (by simp) (by omega);have g3:=(hk1w.below hb1 (by omega)).cell 3;simp at g3
      go_wp2_with fail
      refine(H4.out _).mono ?_;rintro e wz ⟨rfl,rfl⟩
      by_cases hlt2:(j:Int)<3+P4
      ·have hkI:(j:Int)<4:=by omega
       obtain⟨vA,vc,rfl⟩:=hown.form;have hzw:=hch.size;clear g3
       go_upto_region 10 with fail
       refine Zt (fun w'=>Below wr.heap.size wr w') (fun w'=>Blk w' gb 51 #[.int .i64 P1,.int .i64 (1+P2),.slice bA xs.length bc,.slice vA ys.length vc]∧Below gb w1 w') [10] (.q 0 (.q 1 (.q 2 (.q 3 (.q 4 (.q 5 (.l 6 (.l 7 (.l 8 (.q 9 (.l 10 .nil))))))))))) ?_ ?_
       ·exact⟨Zad _,hB.kept (Zad _),hb1.trans ((Zad _).mono (by omega))⟩
       intro W3 hS3 hS0;have e10:IntKind.i64.wrap (10+(j:Int))=((10+j:Nat):Int):=by rw[IntKind.wrap_i64];omega
       repeat((first|refine pq (h:=⟨_,fun w' hS=>by(have hq:=hS.1.cell 3;have hr:=(hk1w.below hS.2 (by omega)).cell 1;simp at hq hr;go_simp;exact rfl),?_⟩)|refine Zq ?_);simp only[sx])
       refine Zd fun K hK=>?_
       try simp only[sy]
       go_simp;refine(Znf a _ _ Ha.out).mono ?_;rintro e w4 ⟨d,ds,rfl,hb4,hr4⟩;have hz3:=hS3.size;have hX4:=hS0.1.kept hb4;have hL4:=hS0.2.trans (hb4.mono (by omega));have hown4:=(hown.kept (RFrom.mono RDig.mono) hS3).kept (RFrom.mono RDig.mono) hb4;obtain⟨dA,dc,rfl,hfd⟩:=id hr4;clear hfd;refine hK.out _ _ (⟨hX4,hL4⟩) fun hS=>?_
       clear hK K
       try simp only[sx]
       repeat(refine Zq ?_;simp only[sx])
       refine Zd fun K hK=>?_
       try simp only[sy]
       go_simp;have hb5:=Zac w4 (.cells #[.slice dA ds.length dc] 54);have hX5:=hX4.kept hb5;have hz4:=hb4.size;have hL5:=hL4.trans (hb5.mono (by omega));refine hK.out _ _ (⟨hX5,hL5⟩) fun hS=>?_
       clear hK K
       try simp only[sx]
       refine Zd fun K hK=>?_
       try simp only[sy]
       have hlto:=hown4.lt
       have rR:RFrom w1.heap.size RDig (View.but w4.cell? (Value.slice vA ys.length vc).ownBlock) [.slice dA ds.length dc] ds:=by
        have q:VLe (View.from w4.cell? W3.heap.size) (View.from (View.but w4.cell? (Value.slice vA ys.length vc).ownBlock) w1.heap.size):=Zbb (by omega) (fun g hg=>by have:=((hown.kept (RFrom.mono RDig.mono) hS3).lt g hg).2;omega);exact RDig.mono _ _ _ _ ⟨_,rfl,hr4⟩ q
       refine Zbg (n:=140737488355328) (xs:=ys) (RFrom.mono RDig.mono) ds [.slice dA ds.length dc] Zez _ _ rfl rfl hown4 (W:=w4) (Below.refl _ _) (by omega) rfl rfl rfl rfl rR (Nat.le_refl _) (by omega) (by omega) (fun v8 w8 ho8 hb8 hg8=>?_);have hneo:∀q,(Value.slice vA ys.length vc).ownBlock=some q→w1.heap.size≤q:=fun q hq=>(hlto q hq).1
       have hX8:=hX4.grown hg8 (fun e=>by have:=hneo _ e.symm;omega);have hL8:=Zab hL4 (by omega) hg8 (fun q hq=>by have:=hneo q hq;omega);obtain⟨v8A,v8c,rfl⟩:=ho8.form;refine hK.out _ _ (⟨hX8,hL8⟩) fun hS=>?_
       clear hK K
       try simp only[sx]
       repeat(refine Zq ?_;simp only[sx])
       refine Zc fun K hK=>?_
       try simp only[sy]
       refine Zav (n:=1) rfl rfl rfl (by kernel_rfl) rfl hX8 (by simp) rfl ?_;intro w9 hX9 hg9;have hX9:Blk w9 gb 51 #[.int .i64 P1,.int .i64 (1+P2),.slice bA xs.length bc,.slice v8A (ys++[ds]).length v8c]:=hX9;have ho9:=ho8.low RDig.mono hg9 (by omega)
       have hch9:Chg [gb] w1 w9:=by
        have c1:=(hch.trans (.of_below hS3 (Nat.le_refl _))).trans (.of_below hb4 (Nat.le_refl _));have c2:Chg [gb] w1 w8:=Zn2 c1 hg8 (fun q hq=>.inr (hneo q hq));exact Zn2 c2 hg9 (fun q hq=>.inl (by injection hq with hq;subst hq;simp))
       refine hK.out _ _ ?_;clear hK K
       try simp only[sx]
       refine Zah ?_;go_wp2;go_roundw
       case rel=>exact⟨j+1,_,ys++[ds],by omega,by omega,by go_num,by simp;omega,hX9,ho9,hch9⟩
       case measure=>simp[intOf];omega
      ·have rp:=hown.reads_from (bs:=24) RDig.mono (by omega);obtain⟨pA,pc,rfl⟩:=hown.form;have hk2r:=hk2w.below hb1 (by omega);have hbr:=hbw.trans (hb1.mono (by omega));clear hown g3
       go_wp2_with (first|(refine wpList_load_row rfl 51 _ rfl _ rfl _ _ _ _ hB Tryz.underlying51 rfl (by kernel_rfl) ?_)|(refine Zj 4 hk2r ?_))
       intro w3 hk3 hg3;go_wp2;refine bodyPost_ret (Zay rfl rfl (by kernel_rfl) (by kernel_rfl) hk3 rfl) rfl ?_;refine⟨⟨P1,1+P2,xs,ys⟩,_,_,rfl,Zab hbr hbr.size hg3 (by intro q e;injection e;omega),rb.mono RDig.mono ?_,rp.mono RDig.mono ?_⟩
       ·exact((Zil (B:=gb+1) hch (by simp)).trans (Zax hg3 (by omega))).trans (Za8 (by omega))
       ·exact(Zax hg3 (by omega)).trans (Za8 (by omega))
    ·have hone2:¬(1+P2>1):=hone
     go_wp2_with (first|(refine wpList_load_row rfl 51 _ rfl _ rfl _ _ _ _ hB Tryz.underlying51 rfl (by kernel_rfl) ?_)|(refine Zj 4 hk2w ?_))
     intro w3 hk3 hg3;go_wp2;refine bodyPost_ret (Zay rfl rfl (by kernel_rfl) (by kernel_rfl) hk3 rfl) rfl ?_;refine⟨⟨P1,1+P2,xs,[]⟩,_,_,rfl,Zab hbw hbw.size hg3 (by intro q e;injection e;omega),rb.mono RDig.mono ?_,RSl.nil _ _ _ _⟩;exact(Zax hg3 (by omega)).trans (Za8 (by omega))
end Fl
end Go.Proofs.YtinibgklgehdpaaGreatDoor
