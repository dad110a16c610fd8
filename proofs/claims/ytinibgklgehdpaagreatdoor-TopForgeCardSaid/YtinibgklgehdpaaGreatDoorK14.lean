/- A part of what the last text stands on. -/
import Derived.Test.YtinibgklgehdpaaGreatDoorK03
import Derived.Test.YtinibgklgehdpaaGreatDoorK11
import Derived.Test.YtinibgklgehdpaaGreatDoorK13
namespace Go.Proofs.YtinibgklgehdpaaGreatDoor
open Go.ChangeShapes Go.WideShapes Go.ChangeAt Go.RowKit Qa Qb Qc
set_option linter.all false
set_option maxHeartbeats 20000000
set_option maxRecDepth 100000
theorem Zks(w0:World)(g:Nat)(s:RS)(w:World)(hs:RdS w0 w g s) :
 Calls Tryz.prog 47 #[.pointer (some ⟨g,0,none⟩)] w fun e w'=>∃vb vp,e=.returned (.agg #[.int .i64 (hdrR s).1.author,.int .i64 (hdrR s).1.round,vb,vp])∧w.grownBy w' (some g)∧RdS w0 w' g (hdrR s).2 ∧
  RDigs (View.from w'.cell? w.heap.size) vb (hdrR s).1.batches∧RDigs (View.from w'.cell? w.heap.size) vp (hdrR s).1.parents:=by
 have hlt0:=hs.lt;have hsz:=hs.size;obtain⟨R,hR⟩:∃R,Hid (hdrR s=R):=⟨_,rfl⟩;obtain⟨V1,hV1⟩:∃V,Hid (nmV 1 s=V):=⟨_,rfl⟩;obtain⟨S1,hS1⟩:∃S,Hid (tkS 1 s=S):=⟨_,rfl⟩;obtain⟨V2,hV2⟩:∃V,Hid (nmV 3 S1=V):=⟨_,rfl⟩;obtain⟨S2,hS2⟩:∃S,Hid (tkS 3 S1=S):=⟨_,rfl⟩;obtain⟨⟨D1,S3⟩,hD1⟩:∃p,Hid (Zjr S2=p):=⟨_,rfl⟩;obtain⟨⟨D2,S4⟩,hD2⟩:∃p,Hid (Zjr S3=p):=⟨_,rfl⟩
 have HR:Hid (R=(⟨V1,V2,D1,D2⟩,S4)):=by
  show _=_;rw[←hR.out];unfold hdrR;rw[hS1.out,hS2.out,hD1.out,hD2.out,hV1.out,hV2.out]
 rw[hR.out];clear hR
 go_enter Tryz.func47,Tryz.ntmps47
 go_upto_region 1 with fail
 refine Zo fun W hk hszW hbW=>?_
 have hzW:w.heap.size+1≤W.heap.size:=by omega
 clear hszW
 go_wp2_with fail
 refine(Zbe w0 g 1 1 s W rfl (by decide) (hs.kept hbW)).mono ?_;rintro e w1 ⟨rfl,hg1,hs1⟩;rw[hV1.out];rw[hS1.out]at hs1;have hk1:=hk.grown hg1 (by simp;omega);have hz1:=hg1.size
 go_wp2_with fail
 refine(Zbe w0 g 3 3 S1 w1 rfl (by decide) hs1).mono ?_;rintro e w2 ⟨rfl,hg2,hs2⟩;rw[hV2.out];rw[hS2.out]at hs2;have hk2:=hk1.grown hg2 (by simp;omega);have hz2:=hg2.size;have hgw2:w.grownBy w2 (some g):=Zaf (Zaf (Zak _ hbW) hg1) hg2;clear hs hs1 hk hk1
 go_upto_region 2 with fail
 refine Zo fun W3 hX hsX hbX=>?_
 have hzX:w2.heap.size+1≤W3.heap.size:=by omega
 clear hsX;have hk3:=hk2.kept hbX;have hgw3:w.grownBy W3 (some g):=Zaf hgw2 (Zak _ hbX)
 go_wp2_with fail
 refine(Zjd w0 g S2 W3 (hs2.kept hbX)).mono ?_;rintro e w4 ⟨d1,rfl,hg4,hs4,hr4⟩;rw[hD1.out]at hs4 hr4;have hX4:=hX.grown hg4 (by simp;omega);have hk4:=hk3.grown hg4 (by simp;omega);have hz4:=hg4.size;have hgw4:=Zaf hgw3 hg4;obtain⟨A1,c1,rfl,hf⟩:=id hr4;clear hf hs2 hX hk3 hk2
 go_wp2_with (refine Zai (n:=1) rfl rfl rfl rfl (by kernel_rfl) rfl hX4 (by simp) rfl ?_)
 intro w5 hX5 hg5;have hX5:Blk w5 w2.heap.size 51 #[.int .i64 V1,.int .i64 V2,.slice A1 D1.length c1,.slice none 0 0]:=hX5;have hs5:=hs4.step hg5 (fun q hq=>by injection hq with hq;omega);have hk5:=hk4.grown hg5 (by simp;omega);have hr5:=hr4.mono RDig.mono (Zbj hg5 (by omega));have hz5:=hg5.size;have hgw5:w.grownBy w5 (some g):=Zex hgw4 hg5 (fun q hq=>by injection hq with hq;omega);clear hs4 hr4 hX4 hk4
 go_wp2_with fail
 refine(Zjd w0 g S3 w5 hs5).mono ?_;rintro e w6 ⟨d2,rfl,hg6,hs6,hr6⟩;rw[hD2.out]at hs6 hr6;have hX6:=hX5.grown hg6 (by simp;omega);have hk6:=hk5.grown hg6 (by simp;omega);have hz6:=hg6.size;have hr56:=hr5.mono RDig.mono (Zbj hg6 (by omega));have hgw6:=Zaf hgw5 hg6;obtain⟨A2,c2,rfl,hf⟩:=id hr6;clear hf hs5 hX5 hk5 hr5
 go_wp2_with (refine Zai (n:=1) rfl rfl rfl rfl (by kernel_rfl) rfl hX6 (by simp) rfl ?_)
 intro w7 hX7 hg7;have hX7:Blk w7 w2.heap.size 51 #[.int .i64 V1,.int .i64 V2,.slice A1 D1.length c1,.slice A2 D2.length c2]:=hX7;have hs7:=hs6.step hg7 (fun q hq=>by injection hq with hq;omega);have hk7:=hk6.grown hg7 (by simp;omega);have hz7:=hg7.size;have hr57:=hr56.mono RDig.mono (Zbj hg7 (by omega));have hr67:=hr6.mono RDig.mono (Zbj hg7 (by omega));have hgw7:w.grownBy w7 (some g):=Zex hgw6 hg7 (fun q hq=>by injection hq with hq;omega);have x0:=hX7.cell 0;have x1:=hX7.cell 1;have x2:=hX7.cell 2;have x3:=hX7.cell 3;simp at x0 x1 x2 x3;clear hs6 hX6 hk6 hr56 hr6
 go_wp2_with (refine Zj 4 hk7 ?_)
 intro w8 hB8 hg8;have hs8:=hs7.step hg8 (fun q hq=>by injection hq with hq;omega);have hgw8:w.grownBy w8 (some g):=Zex hgw7 hg8 (fun q hq=>by injection hq with hq;omega);go_wp2;refine bodyPost_ret (Zay rfl rfl (by kernel_rfl) (by kernel_rfl) hB8 rfl) rfl ?_;rw[HR.out];exact⟨.slice A1 D1.length c1,.slice A2 D2.length c2,rfl,hgw8,hs8,(hr57.mono RDig.mono (Zbj hg8 (by omega))).mono RDig.mono (Zd3 (by omega)),(hr67.mono RDig.mono (Zbj hg8 (by omega))).mono RDig.mono (Zd3 (by omega))⟩
theorem Chg.new{G:List Nat}{a b c:World}{r:Option Nat}(h:Chg G a b)(hg:b.grownBy c r)(hr:∀q,r=some q→q∈G∨a.heap.size≤q):Chg G a c :=
 ⟨hg.os.trans h.os,hg.tape.trans h.tape,hg.output.trans h.output,Nat.le_trans h.size hg.size,fun i hi hn=>(hg.block i (Nat.lt_of_lt_of_le hi h.size) (fun e=>(hr i e.symm).elim hn (fun h=>by omega))).trans (h.block i hi hn)⟩
theorem Zp4(w0:World)(g:Nat)(s:RS)(w:World)(hs:RdS w0 w g s) :
 Calls Tryz.prog 46 #[.pointer (some ⟨g,0,none⟩)] w fun e w'=>∃vt,e=.returned (.agg #[.int .i64 (batR s).1.author,.int .i64 (batR s).1.number,vt])∧w.grownBy w' (some g)∧RdS w0 w' g (batR s).2∧RTexts (View.from w'.cell? w.heap.size) vt (batR s).1.txs:=by
 have hlt0:=hs.lt;have hsz:=hs.size;obtain⟨R,hR⟩:∃R,Hid (batR s=R):=⟨_,rfl⟩;obtain⟨V1,hV1⟩:∃V,Hid (nmV 1 s=V):=⟨_,rfl⟩;obtain⟨S1,hS1⟩:∃S,Hid (tkS 1 s=S):=⟨_,rfl⟩;obtain⟨V2,hV2⟩:∃V,Hid (nmV 3 S1=V):=⟨_,rfl⟩;obtain⟨S2,hS2⟩:∃S,Hid (tkS 3 S1=S):=⟨_,rfl⟩;obtain⟨M,hM⟩:∃M,Hid (nmV 1 S2=M):=⟨_,rfl⟩;have hM256:M<256:=by rw[←hM.out];exact Zo2 1 S2
 obtain⟨s1,hs1'⟩:∃S,Hid (tkS 1 S2=S):=⟨_,rfl⟩;obtain⟨X,hX'⟩:∃X,Hid (it Zg3 M ([],s1)=X):=⟨_,rfl⟩
 have HR:Hid (R=(⟨V1,V2,X.1⟩,X.2)):=by
  show _=_;rw[←hR.out];unfold batR;rw[hS1.out,hS2.out,hV1.out,hV2.out,show txsR S2=X by rw[←hX'.out,←hM.out,←hs1'.out];rfl]
 rw[hR.out];clear hR
 go_enter Tryz.func46,Tryz.ntmps46
 go_upto_region 1 with fail
 refine Zo fun W hk hszW hbW=>?_
 have hzW:w.heap.size+1≤W.heap.size:=by omega
 clear hszW
 go_wp2_with fail
 refine(Zbe w0 g 1 1 s W rfl (by decide) (hs.kept hbW)).mono ?_;rintro e w1 ⟨rfl,hg1,hs1⟩;rw[hV1.out];rw[hS1.out]at hs1;have hk1:=hk.grown hg1 (by simp;omega);have hz1:=hg1.size
 go_wp2_with fail
 refine(Zbe w0 g 3 3 S1 w1 rfl (by decide) hs1).mono ?_;rintro e w2 ⟨rfl,hg2,hs2⟩;rw[hV2.out];rw[hS2.out]at hs2;have hk2:=hk1.grown hg2 (by simp;omega);have hz2:=hg2.size;have hgw2:w.grownBy w2 (some g):=Zaf (Zaf (Zak _ hbW) hg1) hg2;clear hs hs1 hk hk1 hS1 hV1 hV2 hS2
 go_upto_region 2 with fail
 refine Zo fun W3 hX hsX hbX=>?_
 have hzX:w2.heap.size+1≤W3.heap.size:=by omega
 clear hsX;have hk3:=hk2.kept hbX;have hgw3:w.grownBy W3 (some g):=Zaf hgw2 (Zak _ hbX)
 go_wp2_with fail
 refine(Zbe w0 g 1 1 S2 W3 rfl (by decide) (hs2.kept hbX)).mono ?_;rintro e w4 ⟨rfl,hg4,hs4⟩;rw[hM.out];rw[hs1'.out]at hs4;have hX4:=hX.grown hg4 (by simp;omega);have hk4:=hk3.grown hg4 (by simp;omega);have hz4:=hg4.size;have hgw4:=Zaf hgw3 hg4;clear hs2 hX hk3 hk2 hM hs1'
 go_wp2_with fail
 go_loopw [4] (fun i wr=>∃(k:Nat) (z:Int) (p:List ByteArray×RS) (v:Value),i=.int .i64 z∧Hid (z=(M:Int)-k)∧Hid (k≤M)∧0≤z∧z≤255∧Hid (it Zg3 k ([],s1)=p)∧Hid (p.1.length≤k)∧Blk wr w2.heap.size 53 #[.int .i64 V1,.int .i64 V2,v]∧OwnS wr w4.heap.size v p.1∧RdS w0 wr g p.2∧Chg [g,w2.heap.size] w4 wr) (fun i _=>(intOf i).toNat)
 case atStart=>exact⟨0,(M:Int),([],s1),_,rfl,by show _=_;omega,Nat.zero_le _,by omega,by omega,rfl,Nat.zero_le _,hX4,OwnVec.nil _ _ _ _,hs4,.of_below (Below.refl _ _) (Nat.le_refl _)⟩
 case round =>
  obtain⟨k,z,p,v,rfl,hz,hkM,hz0,hz255,hp,hpl,hBx,hown,hsr,hch⟩:=hrel;obtain⟨acc,l,sh⟩:=p;replace hown:OwnS wr w4.heap.size v acc:=hown;have done:(it Zg3 M ([],s1)=(acc,(l,sh)))→Hid (X=(acc,(l,sh))):=fun h=>by show _=_;rw[←hX'.out,h]
  have hcs:=hch;obtain⟨vr,hB,hrr⟩:=hsr.blk;clear hrr;have g1c:=hB.cell 1;simp at g1c;have hzr:=hch.size;have hne:w2.heap.size≠g:=by omega
  have hgB:Hid (g<w4.heap.size):=by show _<_;omega
  by_cases hzp:0<z
  ·cases sh
   ·have hn:Hid (it Zg3 (k+1) ([],s1)=(acc++[bstr (tkB (nmV 1 (l,false)) (tkS 1 (l,false)))],tkS (nmV 1 (l,false)) (tkS 1 (l,false)))):=by
     show Zg3 (it Zg3 k ([],s1))=_;rw[hp.out];rfl
    obtain⟨N,hN⟩:∃N,Hid (nmV 1 (l,false)=N):=⟨_,rfl⟩;have hN256:N<256:=by rw[←hN.out];exact Zo2 1 (l,false)
    obtain⟨Y,hY⟩:∃Y,Hid (tkS 1 (l,false)=Y):=⟨_,rfl⟩;rw[hN.out,hY.out]at hn;obtain⟨T,hT⟩:∃T,Hid (tkB N Y=T):=⟨_,rfl⟩;obtain⟨S,hS'⟩:∃S,Hid (tkS N Y=S):=⟨_,rfl⟩;rw[hT.out,hS'.out]at hn;have hTl:T.length≤256:=by rw[←hT.out];have:=Zna N Y;omega
    have hacc:acc.length≤255:=by have h1:acc.length≤k:=hpl.out;have h2:k≤M:=hkM.out;omega
    have Hacc:=Lib.hid hacc;clear done hp hacc;obtain⟨vA,vc,rfl⟩:=hown.form
    go_wp2_with fail
    refine Zt (fun w'=>Below wr.heap.size wr w') (fun w'=>Blk w' w2.heap.size 53 #[.int .i64 V1,.int .i64 V2,.slice vA acc.length vc]) [9,10] (.q 0 (.q 1 (.q 2 (.q 3 (.l 4 (.l 5 (.l 6 (.l 7 (.l 8 (.qc 9 (.l 10 .nil))))))))))) ?_ ?_
    ·exact⟨Zad _,hBx.kept (Zad _)⟩
    intro W hS0 hS;have hsr0:=hsr.kept hS0;have hown0:=hown.kept hS0;have hzW:=hS0.size;clear hB g1c
    repeat((first|refine pq (h:=⟨_,fun w' hS=>by(have h0:=hS.cell 0;have h1:=hS.cell 1;have h2:=hS.cell 2;simp at h0 h1 h2;go_simp;exact rfl),?_⟩)|refine Zq ?_);simp only[sx])
    refine Zd fun K hK=>?_
    try simp only[sy]
    go_simp;refine(Zbe w0 g 1 1 (l,false) _ rfl (by decide) hsr0).mono ?_;rintro e w5 ⟨rfl,hg5,hs5⟩;rw[hN.out];rw[hY.out]at hs5;have hX5:=(hBx.kept hS0).grown hg5 (by simp;omega);have hown5:=hown0.grown hg5 hgB.out;refine hK.out _ _ (hX5) fun hS=>?_
    clear hK K
    try simp only[sx]
    refine Zd fun K hK=>?_
    try simp only[sy]
    go_simp;refine(Zhy w0 g N N Y _ rfl (by omega) hs5).mono ?_;rintro e w6 ⟨d,rfl,hg6,hs6,hr6⟩;rw[hS'.out]at hs6;rw[hT.out]at hr6;have hX6:=hX5.grown hg6 (by simp;omega);have hown6:=hown5.grown hg6 hgB.out;have hstr:=Zet (hr6.mono (View.from_le _ _));obtain⟨dA,dc,rfl,hfd⟩:=id hr6;clear hfd;have hz6:=hg6.size;have hz5:=hg5.size;refine hK.out _ _ (hX6) fun hS=>?_
    clear hK K
    try simp only[sx]
    refine Zd fun K hK=>?_
    try simp only[sy]
    go_simp;refine hK.out _ _ (hX6) fun hS=>?_
    clear hK K
    try simp only[sx]
    refine Zd fun K hK=>?_
    try simp only[sy]
    go_simp;have hb7:=Zac w6 (.cells #[.string (bstr T)] 9);have hn7:(w6.alloc (.cells #[.string (bstr T)] 9)).cell? ⟨w6.heap.size,0,none⟩=some (encS (bstr T)):=(Blk.new w6 9 #[.string (bstr T)]).cell 0;have hX7:=hX6.kept hb7;have hown7:=hown6.kept hb7;have hs7:=hs6.kept hb7;have hgw7:wr.grownBy (w6.alloc (.cells #[.string (bstr T)] 9)) (some g):=Zaf (Zaf (Zaf (Zak _ hS0) hg5) hg6) (Zak _ hb7);have hz7:=hgw7.size;refine hK.out _ _ (hX7) fun hS=>?_
    clear hK K
    try simp only[sx]
    refine Zd fun K hK=>?_
    try simp only[sy]
    have hlto:=hown7.own.lt;refine Zcn (n:=140737488355328) (ys:=[bstr T]) Zk6 Zia _ _ rfl rfl hown7 (by simp;omega) rfl (RVec.one (bstr T) hn7 (by decide)) (by decide) (by have:=Hacc.out;simp;omega) (by have:=Hacc.out;simp;omega) (fun v8 w8 ho8 hg8 hloc=>?_);clear hloc;have hneo:∀q,(Value.slice vA acc.length vc).ownBlock=some q→w4.heap.size≤q:=fun q hq=>(hlto q hq).1
    have hX8:=hX7.grown hg8 (fun e=>by have:=hneo _ e.symm;omega);have hs8:=hs7.step hg8 (fun q hq=>by have:=hneo q hq;omega);obtain⟨v8A,v8c,rfl⟩:=ho8.form;refine hK.out _ _ (hX8) fun hS=>?_
    clear hK K
    try simp only[sx]
    repeat(refine Zq ?_;simp only[sx])
    refine Zc fun K hK=>?_
    try simp only[sy]
    refine Zav (n:=1) rfl rfl rfl (by kernel_rfl) rfl hX8 (by simp) rfl ?_;intro w9 hX9 hg9;have hX9:Blk w9 w2.heap.size 53 #[.int .i64 V1,.int .i64 V2,.slice v8A (acc++[bstr T]).length v8c]:=hX9;have hs9:=hs8.step hg9 (fun q hq=>by injection hq;omega);have ho9:=ho8.grown hg9 (by omega);have hch9:Chg [g,w2.heap.size] w4 w9:=((hch.new hgw7 (fun q hq=>.inl (by injection hq with hq;subst hq;simp))).new hg8 (fun q hq=>.inr (hneo q hq))).new hg9 (fun q hq=>.inl (by injection hq with hq;subst hq;simp));have hzw:IntKind.i64.wrap (z-1)=z-1:=by rw[IntKind.wrap_i64];omega
    refine hK.out _ _ ?_;clear hK K
    try simp only[sx]
    refine Zah ?_;go_wp2;go_roundw
    case rel=>exact⟨k+1,z-1,(acc++[bstr T],S),_,rfl,by show _=_;have:=hz.out;omega,by show _≤_;have:=hz.out;omega,by omega,by omega,hn,by show _≤_;have:=hpl.out;simp at this ⊢;omega,hX9,ho9,hs9,hch9⟩
    case measure=>simp[intOf];omega
   ·have hX2:=done (by rw[Znt hkM.out (by rw[hp.out];rfl),hp.out]);have hacc:acc.length≤255:=by have h1:acc.length≤k:=hpl.out;have h2:k≤M:=hkM.out;omega
    have hrd:=hown.from_ (bs:=16) (b0:=w4.heap.size) (by omega) (Nat.le_refl _);obtain⟨oA,oc,rfl⟩:=hown.form;have hkr:=hk4.chg hch (by simp;omega);have x0:=hBx.cell 0;have x1:=hBx.cell 1;have x2:=hBx.cell 2;simp at x0 x1 x2;have hgr:w.grownBy wr (some g):=⟨hch.os.trans hgw4.os,hch.tape.trans hgw4.tape,hch.output.trans hgw4.output,Nat.le_trans hgw4.size hch.size,fun i hi hn=>(hch.block i (Nat.lt_of_lt_of_le hi hgw4.size) (by simp;exact⟨fun e=>hn (by rw[e]),by omega⟩)).trans (hgw4.block i hi hn)⟩;have hzw4:=hgw4.size;clear done hp hown hch
    go_wp2_with (refine Zj 3 hkr ?_)
    intro w8 hB8 hg8;have hs8:=hsr.step hg8 (fun q hq=>by injection hq with hq;omega);have hgw8:w.grownBy w8 (some g):=Zex hgr hg8 (fun q hq=>by injection hq with hq;omega);have hrd8:=(hrd.mono (Zbj hg8 (by have:=hgw4.size;omega))).mono (Zd3 (by have:=hgw4.size;omega));go_wp2;refine bodyPost_ret (Zay rfl rfl (by kernel_rfl) (by kernel_rfl) hB8 rfl) rfl ?_;rw[HR.out,hX2.out];exact⟨.slice oA acc.length oc,rfl,hgw8,hs8,hrd8⟩
  ·have hX2:=done (by rw[show M=k by have:=hz.out;have:=hkM.out;omega,hp.out]);have hacc:acc.length≤255:=by have h1:acc.length≤k:=hpl.out;have h2:k≤M:=hkM.out;omega
   have hrd:=hown.from_ (bs:=16) (b0:=w4.heap.size) (by omega) (Nat.le_refl _);obtain⟨oA,oc,rfl⟩:=hown.form;have hkr:=hk4.chg hch (by simp;omega);have x0:=hBx.cell 0;have x1:=hBx.cell 1;have x2:=hBx.cell 2;simp at x0 x1 x2;have hgr:w.grownBy wr (some g):=⟨hch.os.trans hgw4.os,hch.tape.trans hgw4.tape,hch.output.trans hgw4.output,Nat.le_trans hgw4.size hch.size,fun i hi hn=>(hch.block i (Nat.lt_of_lt_of_le hi hgw4.size) (by simp;exact⟨fun e=>hn (by rw[e]),by omega⟩)).trans (hgw4.block i hi hn)⟩;have hzw4:=hgw4.size;clear done hp hown hch
   go_wp2_with (refine Zj 3 hkr ?_)
   intro w8 hB8 hg8;have hs8:=hsr.step hg8 (fun q hq=>by injection hq with hq;omega);have hgw8:w.grownBy w8 (some g):=Zex hgr hg8 (fun q hq=>by injection hq with hq;omega);have hrd8:=(hrd.mono (Zbj hg8 (by have:=hgw4.size;omega))).mono (Zd3 (by have:=hgw4.size;omega));go_wp2;refine bodyPost_ret (Zay rfl rfl (by kernel_rfl) (by kernel_rfl) hB8 rfl) rfl ?_;rw[HR.out,hX2.out];exact⟨.slice oA acc.length oc,rfl,hgw8,hs8,hrd8⟩
theorem Zxd(h:View):RDigs h (.slice none 0 0) []:=⟨none,0,rfl,Nat.le_refl _,Nat.zero_le _,by simp,fun _=>rfl,fun h=>by simp at h⟩
theorem RMsg.nils(h:View):RMsg h msg0 (.slice none 0 0) (.slice none 0 0) (.slice none 0 0) (.slice none 0 0) (.slice none 0 0) (.slice none 0 0) (.slice none 0 0) :=
 ⟨RVec.nil _ _ _,Zxd _,Zxd _,RVec.nil _ _ _,Zxd _,Zxd _,RVec.nil _ _ _⟩
def nilC:Value:=.slice none 0 0
theorem Zog:∀(n:Nat) (p:List ByteArray×RS),(∀s∈p.1,s.size≤140737488355328)→∀s∈(it Zg3 n p).1,s.size≤140737488355328
 |0,_,h=>h
 |n+1,p,h=>by
  have ih:=Zog n p h
  show ∀s∈(Zg3 (it Zg3 n p)).1,_
  generalize it Zg3 n p=q at ih⊢
  unfold Zg3
  split
  ·exact ih
  ·intro s hs
   rcases List.mem_append.1 hs with h1|h1
   ·exact ih s h1
   ·rw[List.mem_singleton.1 h1,Zlp]
    have h2:=Zna (nmV 1 q.2) (tkS 1 q.2)
    have h3:=Zo2 1 q.2
    omega
theorem Zi9(a b k:Int)(s:RS):∀t∈(bodR a b k s).1.bat.txs,t.size≤140737488355328:=by
 have h0:∀t∈bat0.txs,t.size≤140737488355328:=fun t ht=>by cases ht
 unfold bodR;split
 ·exact Zog _ _ (fun t ht=>by cases ht)
 repeat' split
 all_goals exact h0
theorem Zi8(v:Value)(b:List UInt8)(w:World)(hr:Zao w.cell? v b) :
 Calls Tryz.prog 27 #[v] w fun e w'=>∃vt vb vp vd cb cp cv,e=.returned (.tuple #[.agg (msgC (decM b) vt vb vp vd cb cp cv),.int .i64 (decE b)])∧Below w.heap.size w w'∧RMsg (View.from w'.cell? w.heap.size) (decM b) vt vb vp vd cb cp cv:=by
 obtain⟨A,c,rfl,hf⟩:=id hr;clear hf;obtain⟨M,hM⟩:∃M,Hid (decM b=M):=⟨_,rfl⟩;obtain⟨E,hE⟩:∃E,Hid (decE b=E):=⟨_,rfl⟩;rw[hM.out,hE.out]
 go_enter Tryz.func27,Tryz.ntmps27
 go_upto_region 1 with fail
 refine Zo fun W hk hszW hbW=>?_
 have hzW:w.heap.size+1≤W.heap.size:=by omega
 clear hszW
 by_cases hbig:(4000:Int)<b.length
 ·have HE:Hid (E=1):=by show _=_;rw[←hE.out];unfold decE;rw[if_pos (by omega)]
  have HM:Hid (M=msg0):=by show _=_;rw[←hM.out];unfold decM;rw[if_neg (by rw[hE.out,HE.out];decide)]
  go_wp2_with (refine Zj 19 hk ?_)
  intro w8 hB8 hg8;go_wp2;refine bodyPost_ret (Zal rfl rfl (by kernel_rfl) (by kernel_rfl) hB8 rfl) rfl ?_;rw[HM.out,HE.out];exact⟨nilC,nilC,nilC,nilC,nilC,nilC,nilC,rfl,Zab hbW hbW.size hg8 (by intro k e;injection e;omega),RMsg.nils _⟩
 go_upto_region 4 with fail
 refine Zo fun W1 hB hszB hbB=>?_
 have hltB:=hB.lt;have hbB1:=hbW.trans (hbB.mono hbW.size);have hk1:=hk.kept hbB;have hs1:RdS W1 W1 W.heap.size (b,false):=⟨⟨_,hB,hr.mono (Zei hbB1 (by omega))⟩,Zak _ (Below.refl _ _),hltB⟩;obtain⟨g,hg⟩:∃g,g=W.heap.size:=⟨_,rfl⟩;rw[←hg]at hs1 hB hltB⊢;have hgl:w.heap.size+1≤g:=by omega
 clear hszB hg;obtain⟨V0,hV0⟩:∃V,Hid (nmV 1 (b,false)=V):=⟨_,rfl⟩;obtain⟨S0,hS0⟩:∃S,Hid (tkS 1 (b,false)=S):=⟨_,rfl⟩
 go_wp2_with fail
 refine(Zbe W1 g 1 1 (b,false) W1 rfl (by decide) hs1).mono ?_;rintro e w2 ⟨rfl,hg2,hs2⟩;rw[hV0.out];rw[hS0.out]at hs2;have hk2:=hk1.grown hg2 (by simp;omega);have hz2:=hg2.size;have hgw2:=hg2;clear hs1 hB hk1;have hn:=Blk.new w2 66 #[.int .i64 0,.int .i64 0,.int .i64 0,.int .i64 0,.int .i64 0,.slice none 0 0,.int .i64 0,.int .i64 0,.slice none 0 0,.slice none 0 0,.int .i64 0,.int .i64 0,.slice none 0 0,.int .i64 0,.int .i64 0,.slice none 0 0,.slice none 0 0,.slice none 0 0,.int .i64 0];have hbn:=Zac w2 (.cells #[.int .i64 0,.int .i64 0,.int .i64 0,.int .i64 0,.int .i64 0,.slice none 0 0,.int .i64 0,.int .i64 0,.slice none 0 0,.slice none 0 0,.int .i64 0,.int .i64 0,.slice none 0 0,.int .i64 0,.int .i64 0,.slice none 0 0,.slice none 0 0,.slice none 0 0,.int .i64 0] 66)
 go_wp2_with (refine Zj 19 hn ?_)
 intro W3 hX hg3;have hX:Blk W3 w2.heap.size 66 #[.int .i64 0,.int .i64 0,.int .i64 V0,.int .i64 0,.int .i64 0,.slice none 0 0,.int .i64 0,.int .i64 0,.slice none 0 0,.slice none 0 0,.int .i64 0,.int .i64 0,.slice none 0 0,.int .i64 0,.int .i64 0,.slice none 0 0,.slice none 0 0,.slice none 0 0,.int .i64 0]:=hX;have hbX:=Zab hbn hbn.size hg3 (by intro k e;injection e;omega);have hltX:=hX.lt;clear hn hbn hg3;have hk3:=hk2.kept hbX;have hs3:=hs2.kept hbX;have hgw3:W1.grownBy W3 (some g):=Zaf hgw2 (Zak _ hbX);clear hs2 hk2
 have hbl3:Below w.heap.size w W3:=by
  have h1:=Zab hbB1 hbB1.size hgw3 (by intro k e;injection e;omega);exact h1
 have x2:=hX.cell 2;simp at x2
 by_cases hemp:b.length=0
 ·have hb0:b=[]:=List.eq_nil_of_length_eq_zero hemp;subst hb0;have HE:Hid (E=5):=by show _=_;rw[←hE.out];rfl
  have HM:Hid (M=msg0):=by show _=_;rw[←hM.out];unfold decM;rw[if_neg (by rw[hE.out,HE.out];decide)]
  have hV00:V0=0:=by rw[←hV0.out];rfl
  have hS00:S0=([],true):=by rw[←hS0.out];rfl
  subst hV00 hS00
  go_wp2_with fail
  refine(Zbe W1 g 1 1 ([],true) W3 rfl (by decide) hs3).mono ?_;rintro e w4 ⟨rfl,hg4,hs4⟩
  go_wp2_with fail
  refine(Zbe W1 g 1 1 ([],true) w4 rfl (by decide) hs4).mono ?_;rintro e w5 ⟨rfl,hg5,hs5⟩;have hX5:=(hX.grown hg4 (by simp;omega)).grown hg5 (by simp;omega);have hk5:=(hk3.grown hg4 (by simp;omega)).grown hg5 (by simp;omega);have hnv:nmV 1 (([],true):RS)=0:=rfl;have htk:tkS 1 (([],true):RS)=([],true):=rfl;rw[htk]at hs4 hs5;simp only[hnv];clear hnv htk x2 hX hk3
  go_wp2_with (refine Zai (n:=1) rfl rfl rfl rfl (by kernel_rfl) rfl hX5 (by simp) rfl ?_)
  intro w6 hX6 hg6
  go_wp2_with (refine Zai (n:=1) rfl rfl rfl rfl (by kernel_rfl) rfl hX6 (by simp) rfl ?_)
  intro w7 hX7 hg7;have hX7:Blk w7 w2.heap.size 66 #[.int .i64 0,.int .i64 0,.int .i64 0,.int .i64 0,.int .i64 0,.slice none 0 0,.int .i64 0,.int .i64 0,.slice none 0 0,.slice none 0 0,.int .i64 0,.int .i64 0,.slice none 0 0,.int .i64 0,.int .i64 0,.slice none 0 0,.slice none 0 0,.slice none 0 0,.int .i64 0]:=hX7;have hk7:=(hk5.grown hg6 (by simp;omega)).grown hg7 (by simp;omega);have hs7:=(hs5.step hg6 (fun q hq=>by injection hq with hq;omega)).step hg7 (fun q hq=>by injection hq with hq;omega);have x2:=hX7.cell 2;simp at x2;obtain⟨vr,hB7,_⟩:=hs7.blk;have g1:=hB7.cell 1;simp at g1;have hbl7:Below w.heap.size w w7:=Zab (Zab (Zab (Zab hbl3 hbl3.size hg4 (by intro k e;injection e;omega)) (by have:=hg4.size;omega) hg5 (by intro k e;injection e;omega)) (by have:=hg4.size;have:=hg5.size;omega) hg6 (by intro k e;injection e;omega)) (by have:=hg4.size;have:=hg5.size;have:=hg6.size;omega) hg7 (by intro k e;injection e;omega)
  go_wp2_with (refine Zj 19 hk7 ?_)
  intro w8 hB8 hg8;go_wp2;refine bodyPost_ret (Zal rfl rfl (by kernel_rfl) (by kernel_rfl) hB8 rfl) rfl ?_;rw[HM.out,HE.out];exact⟨nilC,nilC,nilC,nilC,nilC,nilC,nilC,rfl,Zab hbl7 hbl7.size hg8 (by intro k e;injection e;omega),RMsg.nils _⟩
 by_cases hbad:V0<1∨5<V0
 ·have HE:Hid (E=3):=by show _=_;rw[←hE.out];unfold decE;rw[hV0.out,if_neg (by omega),if_neg (by omega),if_pos hbad]
  have HM:Hid (M=msg0):=by show _=_;rw[←hM.out];unfold decM;rw[if_neg (by rw[hE.out,HE.out];decide)]
  have hlp:(0:Int)<b.length:=by omega
  by_cases hlo:V0<1
  ·have hkb:(V0:Int)<1:=by omega
   go_wp2_with (refine Zj 19 hk3 ?_)
   intro w8 hB8 hg8;go_wp2;refine bodyPost_ret (Zal rfl rfl (by kernel_rfl) (by kernel_rfl) hB8 rfl) rfl ?_;rw[HM.out,HE.out];exact⟨nilC,nilC,nilC,nilC,nilC,nilC,nilC,rfl,Zab hbl3 hbl3.size hg8 (by intro k e;injection e;omega),RMsg.nils _⟩
  ·have hkb:¬(V0:Int)<1:=by omega
   have hkb2:(5:Int)<V0:=by omega
   go_wp2_with (refine Zj 19 hk3 ?_)
   intro w8 hB8 hg8;go_wp2;refine bodyPost_ret (Zal rfl rfl (by kernel_rfl) (by kernel_rfl) hB8 rfl) rfl ?_;rw[HM.out,HE.out];exact⟨nilC,nilC,nilC,nilC,nilC,nilC,nilC,rfl,Zab hbl3 hbl3.size hg8 (by intro k e;injection e;omega),RMsg.nils _⟩
 have hlp:(0:Int)<b.length:=by omega
 have hkl:¬(V0:Int)<1:=by omega
 have hkh:¬(5:Int)<V0:=by omega
 obtain⟨V1,hV1⟩:∃V,Hid (nmV 1 S0=V):=⟨_,rfl⟩;obtain⟨S1,hS1⟩:∃S,Hid (tkS 1 S0=S):=⟨_,rfl⟩;obtain⟨V2,hV2⟩:∃V,Hid (nmV 1 S1=V):=⟨_,rfl⟩;obtain⟨S2,hS2⟩:∃S,Hid (tkS 1 S1=S):=⟨_,rfl⟩;obtain⟨⟨MR,SR⟩,hMR⟩:∃p,Hid (bodR V1 V2 V0 S2=p):=⟨_,rfl⟩;have HR:Hid (msgR b=(MR,SR)):=by show _=_;rw[←hMR.out];unfold msgR;rw[hS0.out,hS1.out,hS2.out,hV0.out,hV1.out,hV2.out]
 have HE:Hid (E=if SR.2 then 5 else if 0<SR.1.length then 4 else msgF MR):=by
  show _=_;rw[←hE.out];unfold decE;rw[hV0.out,HR.out,if_neg (by omega),if_neg (by omega),if_neg hbad]
 have HM:Hid (M=if E=0 then MR else msg0):=by show _=_;rw[←hM.out];unfold decM;rw[hE.out,HR.out]
 have hsmall:=Lib.hid (Zi9 V1 V2 V0 S2);rw[hMR.out]at hsmall;clear HR hM hE
 go_wp2_with fail
 refine(Zbe W1 g 1 1 S0 W3 rfl (by decide) hs3).mono ?_;rintro e w4 ⟨rfl,hg4,hs4⟩;rw[hV1.out];rw[hS1.out]at hs4;have hX4:=hX.grown hg4 (by simp;omega);have hk4:=hk3.grown hg4 (by simp;omega);clear hs3 hX hk3 x2
 go_wp2_with fail
 refine(Zbe W1 g 1 1 S1 w4 rfl (by decide) hs4).mono ?_;rintro e w5 ⟨rfl,hg5,hs5⟩;rw[hV2.out];rw[hS2.out]at hs5;have hX5:=hX4.grown hg5 (by simp;omega);have hk5:=hk4.grown hg5 (by simp;omega);clear hs4 hX4 hk4
 go_wp2_with (refine Zai (n:=1) rfl rfl rfl rfl (by kernel_rfl) rfl hX5 (by simp) rfl ?_)
 intro w6 hX6 hg6
 go_wp2_with (refine Zai (n:=1) rfl rfl rfl rfl (by kernel_rfl) rfl hX6 (by simp) rfl ?_)
 intro w7 hX7 hg7;have hX7:Blk w7 w2.heap.size 66 #[.int .i64 V1,.int .i64 V2,.int .i64 V0,.int .i64 0,.int .i64 0,.slice none 0 0,.int .i64 0,.int .i64 0,.slice none 0 0,.slice none 0 0,.int .i64 0,.int .i64 0,.slice none 0 0,.int .i64 0,.int .i64 0,.slice none 0 0,.slice none 0 0,.slice none 0 0,.int .i64 0]:=hX7;have hk7:=(hk5.grown hg6 (by simp;omega)).grown hg7 (by simp;omega);have hs7:=(hs5.step hg6 (fun q hq=>by injection hq with hq;omega)).step hg7 (fun q hq=>by injection hq with hq;omega);have hbl7:Below w.heap.size w w7:=Zab (Zab (Zab (Zab hbl3 hbl3.size hg4 (by intro k e;injection e;omega)) (by have:=hg4.size;omega) hg5 (by intro k e;injection e;omega)) (by have:=hg4.size;have:=hg5.size;omega) hg6 (by intro k e;injection e;omega)) (by have:=hg4.size;have:=hg5.size;have:=hg6.size;omega) hg7 (by intro k e;injection e;omega);have hltX7:=hX7.lt;have hltg7:g<w7.heap.size:=by have:=hg4.size;have:=hg5.size;have:=hg6.size;have:=hg7.size;omega
 have hgX:g≠w2.heap.size:=by omega
 have hXg:w2.heap.size≠g:=by omega
 clear hX5 hk5 hs5 hX6 hg4 hg5 hg6 hg7 hS0 hS1 hS2 hV1 hV2;have x2:=hX7.cell 2;simp at x2
 go_upto_block 0 with fail
 go_cut [6,39] (fun _ _ w'=>∃vt vb vp vd cb cp cv,Blk w' w2.heap.size 66 (msgC MR vt vb vp vd cb cp cv)∧RMsg (View.from w'.cell? w7.heap.size) MR vt vb vp vd cb cp cv∧RdS W1 w' g SR∧Chg [g,w2.heap.size] w7 w')
 case first =>
  have hch0:=Chg.refl [g,w2.heap.size] w7;have hin1:∀q,some g=some q→q∈[g,w2.heap.size]∨w7.heap.size≤q:=fun q hq=>.inl (by injection hq with hq;subst hq;simp)
  have hin2:∀q,some w2.heap.size=some q→q∈[g,w2.heap.size]∨w7.heap.size≤q:=fun q hq=>.inl (by injection hq with hq;subst hq;simp)
  have hXnew:∀q,some w2.heap.size=some q→W1.heap.size≤q:=fun q hq=>by injection hq with hq;omega
  rcases(show V0=1∨V0=2∨V0=3∨V0=4∨V0=5 by omega)with rfl|rfl|rfl|rfl|rfl
  ·obtain⟨⟨Bt,St⟩,hBt⟩:∃p,Hid (batR S2=p):=⟨_,rfl⟩
   have HMR:Hid (MR=⟨V1,V2,1,Bt,hdr0,slt0,crt0,0⟩∧SR=St):=by
    have h:=hMR.out;simp[bodR,hBt.out]at h;exact⟨h.1.symm,h.2.symm⟩
   clear hMR hkl hkh
   go_wp2_with fail
   refine(Zp4 W1 g S2 w7 hs7).mono ?_;rintro e w8 ⟨vt,rfl,hg8,hs8,hr8⟩;rw[hBt.out]at hs8 hr8⊢;have hX8:=hX7.grown hg8 (by simp;omega);obtain⟨tA,tc,rfl,hf⟩:=id hr8;clear hf hs7 hX7 x2
   go_wp2_with (refine Zai (n:=3) rfl rfl rfl rfl (by kernel_rfl) rfl hX8 (by simp) rfl ?_)
   intro w9 hX9 hg9;go_wp2;go_meet;rw[HMR.out.1,HMR.out.2];refine⟨_,nilC,nilC,nilC,nilC,nilC,nilC,hX9,?_,hs8.step hg9 hXnew,(hch0.new hg8 hin1).new hg9 hin2⟩;have hn:=RMsg.nils (View.from w9.cell? w7.heap.size);exact⟨hr8.mono (Zbj hg9 (by omega)),hn.bats,hn.pars,hn.dig,hn.cbats,hn.cpars,hn.vots⟩
  ·obtain⟨⟨Ht,St⟩,hHt⟩:∃p,Hid (hdrR S2=p):=⟨_,rfl⟩
   have HMR:Hid (MR=⟨V1,V2,2,bat0,Ht,slt0,crt0,0⟩∧SR=St):=by
    have h:=hMR.out;simp[bodR,hHt.out]at h;exact⟨h.1.symm,h.2.symm⟩
   clear hMR hkl hkh
   go_wp2_with fail
   refine(Zks W1 g S2 w7 hs7).mono ?_;rintro e w8 ⟨vb,vp,rfl,hg8,hs8,hb8,hp8⟩;rw[hHt.out]at hs8 hb8 hp8⊢;have hX8:=hX7.grown hg8 (by simp;omega);obtain⟨bA,bc,rfl,hf⟩:=id hb8;clear hf;obtain⟨pA,pc,rfl,hf⟩:=id hp8;clear hf hs7 hX7 x2
   go_wp2_with (refine Zai (n:=4) rfl rfl rfl rfl (by kernel_rfl) rfl hX8 (by simp) rfl ?_)
   intro w9 hX9 hg9;go_wp2;go_meet;rw[HMR.out.1,HMR.out.2];refine⟨nilC,_,_,nilC,nilC,nilC,nilC,hX9,?_,hs8.step hg9 hXnew,(hch0.new hg8 hin1).new hg9 hin2⟩;have hn:=RMsg.nils (View.from w9.cell? w7.heap.size);exact⟨hn.txs,hb8.mono RDig.mono (Zbj hg9 (by omega)),hp8.mono RDig.mono (Zbj hg9 (by omega)),hn.dig,hn.cbats,hn.cpars,hn.vots⟩
  ·obtain⟨Y1,hY1⟩:∃Y,Hid (nmV 1 S2=Y):=⟨_,rfl⟩;obtain⟨Z1,hZ1⟩:∃Y,Hid (tkS 1 S2=Y):=⟨_,rfl⟩;obtain⟨Y2,hY2⟩:∃Y,Hid (nmV 3 Z1=Y):=⟨_,rfl⟩;obtain⟨Z2,hZ2⟩:∃Y,Hid (tkS 3 Z1=Y):=⟨_,rfl⟩;obtain⟨Y3,hY3⟩:∃Y,Hid (tkB 32 Z2=Y):=⟨_,rfl⟩;obtain⟨Z3,hZ3⟩:∃Y,Hid (tkS 32 Z2=Y):=⟨_,rfl⟩
   have HMR:Hid (MR=⟨V1,V2,3,bat0,hdr0,⟨Y1,Y2,Y3⟩,crt0,0⟩∧SR=Z3):=by
    have h:=hMR.out;simp[bodR,sltR,hY1.out,hY2.out,hY3.out,hZ1.out,hZ2.out,hZ3.out]at h;exact⟨h.1.symm,h.2.symm⟩
   clear hMR hkl hkh
   go_wp2_with fail
   refine(Zbe W1 g 1 1 S2 w7 rfl (by decide) hs7).mono ?_;rintro e w8 ⟨rfl,hg8,hs8⟩;rw[hY1.out];rw[hZ1.out]at hs8;have hX8:=hX7.grown hg8 (by simp;omega);clear hs7 hX7 x2
   go_wp2_with fail
   refine(Zbe W1 g 3 3 Z1 w8 rfl (by decide) hs8).mono ?_;rintro e w9 ⟨rfl,hg9,hs9⟩;rw[hY2.out];rw[hZ2.out]at hs9;have hX9:=hX8.grown hg9 (by simp;omega);clear hs8 hX8
   go_wp2_with fail
   refine(Zhy W1 g 32 32 Z2 w9 rfl (by decide) hs9).mono ?_;rintro e w10 ⟨d,rfl,hg10,hs10,hr10⟩;rw[hZ3.out]at hs10;rw[hY3.out]at hr10;have hX10:=hX9.grown hg10 (by simp;omega);obtain⟨dA,dc,rfl,hf⟩:=id hr10;clear hf hs9 hX9
   go_wp2_with (refine Zai (n:=3) rfl rfl rfl rfl (by kernel_rfl) rfl hX10 (by simp) rfl ?_)
   intro w11 hX11 hg11;go_wp2;go_meet;rw[HMR.out.1,HMR.out.2];refine⟨nilC,nilC,nilC,_,nilC,nilC,nilC,hX11,?_,hs10.step hg11 hXnew,(((hch0.new hg8 hin1).new hg9 hin1).new hg10 hin1).new hg11 hin2⟩;have hn:=RMsg.nils (View.from w11.cell? w7.heap.size);exact⟨hn.txs,hn.bats,hn.pars,(hr10.mono (Zd3 (by have:=hg8.size;have:=hg9.size;omega))).mono (Zbj hg11 (by omega)),hn.cbats,hn.cpars,hn.vots⟩
  ·obtain⟨⟨Ht,St⟩,hHt⟩:∃p,Hid (hdrR S2=p):=⟨_,rfl⟩;obtain⟨N,hN⟩:∃Y,Hid (nmV 1 St=Y):=⟨_,rfl⟩;have hN256:N<256:=by rw[←hN.out];exact Zo2 1 St
   obtain⟨s1,hs1'⟩:∃Y,Hid (tkS 1 St=Y):=⟨_,rfl⟩;obtain⟨X,hXX⟩:∃X,Hid (it Zkf N ([],s1)=X):=⟨_,rfl⟩
   have HMR:Hid (MR=⟨V1,V2,4,bat0,hdr0,slt0,⟨Ht,X.1⟩,0⟩∧SR=X.2):=by
    have h:=hMR.out;have hv:Zt3 St=X:=by rw[←hXX.out,←hN.out,←hs1'.out];rfl
    simp[bodR,crtR,hHt.out,hv]at h;exact⟨h.1.symm,h.2.symm⟩
   clear hMR hkl hkh
   go_wp2_with fail
   refine(Zks W1 g S2 w7 hs7).mono ?_;rintro e w8 ⟨vb,vp,rfl,hg8,hs8,hb8,hp8⟩;rw[hHt.out]at hs8 hb8 hp8⊢;have hX8:=hX7.grown hg8 (by simp;omega);obtain⟨bA,bc,rfl,hf⟩:=id hb8;clear hf;obtain⟨pA,pc,rfl,hf⟩:=id hp8;clear hf hs7 hX7 x2
   go_wp2_with (refine Zai (n:=4) rfl rfl rfl rfl (by kernel_rfl) rfl hX8 (by simp) rfl ?_)
   intro w9 hX9 hg9;have hX9:Blk w9 w2.heap.size 66 #[.int .i64 V1,.int .i64 V2,.int .i64 4,.int .i64 0,.int .i64 0,.slice none 0 0,.int .i64 0,.int .i64 0,.slice none 0 0,.slice none 0 0,.int .i64 0,.int .i64 0,.slice none 0 0,.int .i64 Ht.author,.int .i64 Ht.round,.slice bA Ht.batches.length bc,.slice pA Ht.parents.length pc,.slice none 0 0,.int .i64 0]:=hX9;have hs9:=hs8.step hg9 hXnew;have hb9:=hb8.mono RDig.mono (Zbj hg9 (by omega));have hp9:=hp8.mono RDig.mono (Zbj hg9 (by omega));have hch9:=(hch0.new hg8 hin1).new hg9 hin2;have hz9:=hch9.size;clear hs8 hX8 hb8 hp8
   go_wp2_with fail
   refine(Zbe W1 g 1 1 St w9 rfl (by decide) hs9).mono ?_;rintro e w10 ⟨rfl,hg10,hs10⟩;rw[hN.out];rw[hs1'.out]at hs10;have hX10:=hX9.grown hg10 (by simp;omega);have hb10:=hb9.mono RDig.mono (Zbj hg10 (by omega));have hp10:=hp9.mono RDig.mono (Zbj hg10 (by omega));have hch10:=hch9.new hg10 hin1;have hz10:=hch10.size;clear hs9 hX9 hb9 hp9 hN hs1'
   go_wp2_with fail
   go_loopw [6] (fun i wr=>∃(k:Nat) (z:Int) (p:List Int×RS) (v:Value),i=.int .i64 z∧Hid (z=(N:Int)-k)∧Hid (k≤N)∧0≤z∧z≤255∧Hid (it Zkf k ([],s1)=p)∧Hid (p.1.length≤k)∧Blk wr w2.heap.size 66 #[.int .i64 V1,.int .i64 V2,.int .i64 4,.int .i64 0,.int .i64 0,.slice none 0 0,.int .i64 0,.int .i64 0,.slice none 0 0,.slice none 0 0,.int .i64 0,.int .i64 0,.slice none 0 0,.int .i64 Ht.author,.int .i64 Ht.round,.slice bA Ht.batches.length bc,.slice pA Ht.parents.length pc,v,.int .i64 0]∧OwnI wr w10.heap.size v p.1∧RdS W1 wr g p.2∧Chg [g,w2.heap.size] w10 wr) (fun i _=>(intOf i).toNat)
   case atStart=>exact⟨0,(N:Int),([],s1),_,rfl,by show _=_;omega,Nat.zero_le _,by omega,by omega,rfl,Nat.zero_le _,hX10,OwnVec.nil _ _ _ _,hs10,.of_below (Below.refl _ _) (Nat.le_refl _)⟩
   case round =>
    obtain⟨k,z,p,v,rfl,hz,hkM,hz0,hz255,hp,hpl,hBx,hown,hsr,hch⟩:=hrel;obtain⟨acc,l,sh⟩:=p;replace hown:OwnI wr w10.heap.size v acc:=hown;have done:(it Zkf N ([],s1)=(acc,(l,sh)))→Hid (X=(acc,(l,sh))):=fun h=>by show _=_;rw[←hXX.out,h]
    obtain⟨vr,hB,hrr⟩:=hsr.blk;clear hrr;have g1c:=hB.cell 1;simp at g1c;have hzr:=hch.size;have hgB:Hid (g<w10.heap.size):=by show _<_;omega
    by_cases hzp:0<z
    ·cases sh
     ·have hn:Hid (it Zkf (k+1) ([],s1)=(acc++[(nmV 1 (l,false):Int)],tkS 1 (l,false))):=by
       show Zkf (it Zkf k ([],s1))=_;rw[hp.out];rfl
      obtain⟨N1,hN1⟩:∃N,Hid (nmV 1 (l,false)=N):=⟨_,rfl⟩;obtain⟨Y,hY⟩:∃Y,Hid (tkS 1 (l,false)=Y):=⟨_,rfl⟩;rw[hN1.out,hY.out]at hn;have hacc:acc.length≤255:=by have h1:acc.length≤k:=hpl.out;have h2:k≤N:=hkM.out;omega
      have Hacc:=Lib.hid hacc;clear done hp hacc;obtain⟨vA,vc,rfl⟩:=hown.form
      go_wp2_with fail
      refine Zt (fun w'=>Below wr.heap.size wr w') (fun w'=>Blk w' w2.heap.size 66 #[.int .i64 V1,.int .i64 V2,.int .i64 4,.int .i64 0,.int .i64 0,.slice none 0 0,.int .i64 0,.int .i64 0,.slice none 0 0,.slice none 0 0,.int .i64 0,.int .i64 0,.slice none 0 0,.int .i64 Ht.author,.int .i64 Ht.round,.slice bA Ht.batches.length bc,.slice pA Ht.parents.length pc,.slice vA acc.length vc,.int .i64 0]) [7,8,9] (.q 0 (.q 1 (.q 2 (.q 3 (.l 4 (.l 5 (.l 6 (.qc 7 (.qc 8 (.l 9 .nil)))))))))) ?_ ?_
      ·exact⟨Zad _,hBx.kept (Zad _)⟩
      intro W' hS0 hS;have hsr0:=hsr.kept hS0;have hown0:=hown.kept hS0;have hzW':=hS0.size;clear hB g1c
      repeat((first|refine pq (h:=⟨_,fun w' hS=>by(have h17:=hS.cell 17;simp at h17;go_simp;exact rfl),?_⟩)|refine Zq ?_);simp only[sx])
      refine Zd fun K hK=>?_
      try simp only[sy]
      go_simp;refine(Zbe W1 g 1 1 (l,false) _ rfl (by decide) hsr0).mono ?_;rintro e w11 ⟨rfl,hg11,hs11⟩;rw[hN1.out];rw[hY.out]at hs11;have hX11:=(hBx.kept hS0).grown hg11 (by simp;omega);have hown11:=hown0.grown hg11 hgB.out;have hz11:=hg11.size;refine hK.out _ _ (hX11) fun hS=>?_
      clear hK K
      try simp only[sx]
      refine Zd fun K hK=>?_
      try simp only[sy]
      go_simp;have hb12:=Zac w11 (.cells #[.int .i64 N1] 3);have hn12:(w11.alloc (.cells #[.int .i64 N1] 3)).cell? ⟨w11.heap.size,0,none⟩=some (encI N1):=(Blk.new w11 3 #[.int .i64 N1]).cell 0;have hX12:=hX11.kept hb12;have hown12:=hown11.kept hb12;have hs12:=hs11.kept hb12;have hgw12:wr.grownBy (w11.alloc (.cells #[.int .i64 N1] 3)) (some g):=Zaf (Zaf (Zak _ hS0) hg11) (Zak _ hb12);have hz12:=hgw12.size;refine hK.out _ _ (hX12) fun hS=>?_
      clear hK K
      try simp only[sx]
      refine Zd fun K hK=>?_
      try simp only[sy]
      have hlto:=hown12.own.lt;refine Zcn (n:=140737488355328) (ys:=[(N1:Int)]) Zvn Zib _ _ rfl rfl hown12 (by simp;omega) rfl (RVec.one (N1:Int) hn12 (by decide)) (by decide) (by have:=Hacc.out;simp;omega) (by have:=Hacc.out;simp;omega) (fun v13 w13 ho13 hg13 hloc=>?_);clear hloc;have hneo:∀q,(Value.slice vA acc.length vc).ownBlock=some q→w10.heap.size≤q:=fun q hq=>(hlto q hq).1
      have hX13:=hX12.grown hg13 (fun e=>by have:=hneo _ e.symm;omega);have hs13:=hs12.step hg13 (fun q hq=>by have:=hneo q hq;omega);obtain⟨v13A,v13c,rfl⟩:=ho13.form;refine hK.out _ _ (hX13) fun hS=>?_
      clear hK K
      try simp only[sx]
      repeat(refine Zq ?_;simp only[sx])
      refine Zc fun K hK=>?_
      try simp only[sy]
      refine Zav (n:=1) rfl rfl rfl (by kernel_rfl) rfl hX13 (by simp) rfl ?_;intro w14 hX14 hg14;have hX14:Blk w14 w2.heap.size 66 #[.int .i64 V1,.int .i64 V2,.int .i64 4,.int .i64 0,.int .i64 0,.slice none 0 0,.int .i64 0,.int .i64 0,.slice none 0 0,.slice none 0 0,.int .i64 0,.int .i64 0,.slice none 0 0,.int .i64 Ht.author,.int .i64 Ht.round,.slice bA Ht.batches.length bc,.slice pA Ht.parents.length pc,.slice v13A (acc++[(N1:Int)]).length v13c,.int .i64 0]:=hX14;have hs14:=hs13.step hg14 hXnew;have ho14:=ho13.grown hg14 (by omega);have hch14:Chg [g,w2.heap.size] w10 w14:=((hch.new hgw12 (fun q hq=>.inl (by injection hq with hq;subst hq;simp))).new hg13 (fun q hq=>.inr (hneo q hq))).new hg14 (fun q hq=>.inl (by injection hq with hq;subst hq;simp));have hzw:IntKind.i64.wrap (z-1)=z-1:=by rw[IntKind.wrap_i64];omega
      refine hK.out _ _ ?_;clear hK K
      try simp only[sx]
      refine Zah ?_;go_wp2;go_roundw
      case rel=>exact⟨k+1,z-1,(acc++[(N1:Int)],Y),_,rfl,by show _=_;have:=hz.out;omega,by show _≤_;have:=hz.out;omega,by omega,by omega,hn,by show _≤_;have:=hpl.out;simp at this ⊢;omega,hX14,ho14,hs14,hch14⟩
      case measure=>simp[intOf];omega
     ·have hX2:=done (by rw[Znt hkM.out (by rw[hp.out];rfl),hp.out]);have hacc:acc.length≤255:=by have h1:acc.length≤k:=hpl.out;have h2:k≤N:=hkM.out;omega
      have hrd:=hown.from_ (bs:=8) (b0:=w7.heap.size) (by omega) hz10;obtain⟨oA,oc,rfl⟩:=hown.form
      have hle:=Zil (B:=w7.heap.size) hch (fun q hq=>by simp at hq;rcases hq with rfl|rfl<;>omega)
      clear done hp hown;go_wp2;go_meet;rw[HMR.out.1,HMR.out.2,hX2.out];refine⟨nilC,nilC,nilC,nilC,.slice bA Ht.batches.length bc,.slice pA Ht.parents.length pc,.slice oA acc.length oc,hBx,?_,hsr,hch10.trans hch⟩;have hn:=RMsg.nils (View.from wr.cell? w7.heap.size);exact⟨hn.txs,hn.bats,hn.pars,hn.dig,hb10.mono RDig.mono hle,hp10.mono RDig.mono hle,hrd⟩
    ·have hX2:=done (by rw[show N=k by have:=hz.out;have:=hkM.out;omega,hp.out]);have hacc:acc.length≤255:=by have h1:acc.length≤k:=hpl.out;have h2:k≤N:=hkM.out;omega
     have hrd:=hown.from_ (bs:=8) (b0:=w7.heap.size) (by omega) hz10;obtain⟨oA,oc,rfl⟩:=hown.form
     have hle:=Zil (B:=w7.heap.size) hch (fun q hq=>by simp at hq;rcases hq with rfl|rfl<;>omega)
     clear done hp hown;go_wp2;go_meet;rw[HMR.out.1,HMR.out.2,hX2.out];refine⟨nilC,nilC,nilC,nilC,.slice bA Ht.batches.length bc,.slice pA Ht.parents.length pc,.slice oA acc.length oc,hBx,?_,hsr,hch10.trans hch⟩;have hn:=RMsg.nils (View.from wr.cell? w7.heap.size);exact⟨hn.txs,hn.bats,hn.pars,hn.dig,hb10.mono RDig.mono hle,hp10.mono RDig.mono hle,hrd⟩
  ·obtain⟨Y1,hY1⟩:∃Y,Hid (nmV 3 S2=Y):=⟨_,rfl⟩;obtain⟨Z1,hZ1⟩:∃Y,Hid (tkS 3 S2=Y):=⟨_,rfl⟩
   have HMR:Hid (MR=⟨V1,V2,5,bat0,hdr0,slt0,crt0,Y1⟩∧SR=Z1):=by
    have h:=hMR.out;simp[bodR,hY1.out,hZ1.out]at h;exact⟨h.1.symm,h.2.symm⟩
   clear hMR hkl hkh
   go_wp2_with fail
   refine(Zbe W1 g 3 3 S2 w7 rfl (by decide) hs7).mono ?_;rintro e w8 ⟨rfl,hg8,hs8⟩;rw[hY1.out];rw[hZ1.out]at hs8;have hX8:=hX7.grown hg8 (by simp;omega);clear hs7 hX7 x2
   go_wp2_with (refine Zai (n:=1) rfl rfl rfl rfl (by kernel_rfl) rfl hX8 (by simp) rfl ?_)
   intro w9 hX9 hg9;go_wp2;go_meet;rw[HMR.out.1,HMR.out.2];refine⟨nilC,nilC,nilC,nilC,nilC,nilC,nilC,hX9,?_,hs8.step hg9 hXnew,(hch0.new hg8 hin1).new hg9 hin2⟩;have hn:=RMsg.nils (View.from w9.cell? w7.heap.size);exact⟨hn.txs,hn.bats,hn.pars,hn.dig,hn.cbats,hn.cpars,hn.vots⟩
 case rest =>
  obtain⟨vt,vb,vp,vd,cb,cp,cv,hXc,hrc,hsc,hch⟩:=hcut;obtain⟨sl,sh⟩:=SR;have hkc:=hk7.chg hch (by simp;omega);have hblc:Below w.heap.size w wc:=⟨hch.os.trans hbl7.os,hch.tape.trans hbl7.tape,hch.output.trans hbl7.output,Nat.le_trans hbl7.size hch.size,fun i hi=>(hch.block i (Nat.lt_of_lt_of_le hi hbl7.size) (by simp;omega)).trans (hbl7.block i hi)⟩;have hzc:=hblc.size;have hz7:=hbl7.size;obtain⟨vr,hBc,hrr⟩:=hsc.blk;obtain⟨rA,rc,rfl,hf⟩:=id hrr;have hBc:Blk wc g 102 #[.slice rA sl.length rc,.bool sh]:=hBc;have g0:=hBc.cell 0;have g1:=hBc.cell 1;simp at g0 g1;clear hf hrr hkl hkh hX7 hk7 hs7 x2 hMR;have hlp2:¬(b.length:Int)=0:=by omega
  cases sh
  rotate_left
  ·have HE5:Hid (E=5):=HE.out.trans (if_pos rfl);have HM5:Hid (M=msg0):=by show _=_;rw[HM.out,HE5.out];rfl
   go_wp2_with (refine Zj 19 hkc ?_)
   intro w8 hB8 hg8;go_wp2;refine bodyPost_ret (Zal rfl rfl (by kernel_rfl) (by kernel_rfl) hB8 rfl) rfl ?_;rw[HM5.out,HE5.out];exact⟨nilC,nilC,nilC,nilC,nilC,nilC,nilC,rfl,Zab hblc hblc.size hg8 (by intro k e;injection e;omega),RMsg.nils _⟩
  by_cases hleft:0<sl.length
  ·have HE4:Hid (E=4):=by
    show _=_;rw[HE.out];exact(if_neg (by simp)).trans (if_pos hleft)
   have HM4:Hid (M=msg0):=by show _=_;rw[HM.out,HE4.out];rfl
   have hle:(0:Int)<sl.length:=by omega
   go_wp2_with (refine Zj 19 hkc ?_)
   intro w8 hB8 hg8;go_wp2;refine bodyPost_ret (Zal rfl rfl (by kernel_rfl) (by kernel_rfl) hB8 rfl) rfl ?_;rw[HM4.out,HE4.out];exact⟨nilC,nilC,nilC,nilC,nilC,nilC,nilC,rfl,Zab hblc hblc.size hg8 (by intro k e;injection e;omega),RMsg.nils _⟩
  have HE3:Hid (E=msgF MR):=by
   show _=_;rw[HE.out];exact(if_neg (by simp)).trans (if_neg hleft)
  have hle:¬(0:Int)<sl.length:=by omega
  obtain⟨F,hF⟩:∃F,Hid (msgF MR=F):=⟨_,rfl⟩;have hEF:E=F:=HE3.out.trans hF.out;subst hEF;clear HE HE3 hBc hsc;unfold msgC at hXc;obtain⟨⟨tA,tc,rfl⟩,⟨bA,bc,rfl⟩,⟨pA,pc,rfl⟩,⟨dA,dc,rfl⟩,⟨cA,cc,rfl⟩,⟨qA,qc,rfl⟩,⟨vA,vc,rfl⟩⟩:=hrc.forms
  go_wp2_with (refine wpList_load_row rfl 66 _ rfl _ rfl _ _ _ _ hXc Tryz.underlying66 rfl (by kernel_rfl) ?_)
  refine(Zd4 MR _ _ _ _ _ _ _ _ (hrc.mono (View.from_le _ _)) hsmall.out).mono ?_;rintro e w8 ⟨rfl,hb8⟩;rw[hF.out];have hX8:=hXc.kept hb8;have hk8:=hkc.kept hb8;have hbl8:=hblc.trans (hb8.mono hzc);have hr8:=hrc.mono (Za0 _ (Zaa hb8));clear hXc hkc hrc g0 g1 hF
  by_cases h0:E=0
  ·subst h0;have HM0:Hid (M=MR):=HM.out.trans (if_pos rfl)
   go_wp2_with (first|(refine wpList_load_row rfl 66 _ rfl _ rfl _ _ _ _ hX8 Tryz.underlying66 rfl (by kernel_rfl) ?_)|(refine Zj 19 hk8 ?_))
   intro w9 hB9 hg9;go_wp2;refine bodyPost_ret (Zal rfl rfl (by kernel_rfl) (by kernel_rfl) hB9 rfl) rfl ?_;rw[HM0.out];exact⟨_,_,_,_,_,_,_,rfl,Zab hbl8 hbl8.size hg9 (by intro k e;injection e;omega),(hr8.mono (Zbj hg9 (by omega))).mono (Zd3 hz7)⟩
  ·have HM0:Hid (M=msg0):=HM.out.trans (if_neg h0)
   go_wp2_with (refine Zj 19 hk8 ?_)
   intro w9 hB9 hg9;go_wp2;refine bodyPost_ret (Zal rfl rfl (by kernel_rfl) (by kernel_rfl) hB9 rfl) rfl ?_;rw[HM0.out];exact⟨nilC,nilC,nilC,nilC,nilC,nilC,nilC,rfl,Zab hbl8 hbl8.size hg9 (by intro k e;injection e;omega),RMsg.nils _⟩
end Go.Proofs.YtinibgklgehdpaaGreatDoor
