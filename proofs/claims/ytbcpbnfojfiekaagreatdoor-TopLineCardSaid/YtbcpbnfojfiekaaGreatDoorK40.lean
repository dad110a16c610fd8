/- A part of what the last text stands on. -/
import Derived.Test.YtbcpbnfojfiekaaGreatDoorK37
namespace Go.Proofs.YtbcpbnfojfiekaaGreatDoor
open Go.ChangeShapes Go.WideShapes Go.ChangeAt Go.RowKit Go.Proofs.Tryz Qa Qb Qc
set_option linter.all false
set_option maxHeartbeats 20000000
set_option maxRecDepth 100000
variable{P:Program}{w:World}{a:Act}{o:Oper}{Q:Exit→Act→World→Prop}{K:Act→World→Prop}{cur:Array Value}{e t:TypeId}{i g sz c:Nat}
namespace Fl
theorem Zhc{css:List (List Value)}(h:∀i (hi:i<css.length),css[i].length=sz)(hi:i≤css.length):css.flatten.take (i*sz)=(css.take i).flatten∧css.flatten.drop (i*sz)=(css.drop i).flatten:=by
 have e:css.flatten=(css.take i).flatten++(css.drop i).flatten:=by rw[←List.flatten_append,List.take_append_drop]
 have a:(css.take i).flatten.length=i*sz:=by
  rw[Zh4 (sz:=sz) (fun j b=>by rw[List.getElem_take];exact h j (by simp at b;omega))];rw[List.length_take,Nat.min_eq_left hi]
 rw[e];constructor
 ·rw[←a,List.take_left]
 ·rw[←a,List.drop_left]
theorem Zvc{css:List (List Value)}(h:∀i (hi:i<css.length),css[i].length=sz)(hi:i<css.length):(css.eraseIdx i).flatten=css.flatten.take (i*sz)++css.flatten.drop ((i+1)*sz):=by
 rw[(Zhc h (Nat.le_of_lt hi)).1,(Zhc h (show i+1≤css.length from hi)).2,List.eraseIdx_eq_take_drop_succ,List.flatten_append]
theorem Zhl{bytes n m c2:Nat}{ad:Addr}{news:List Value}(s y:Operand)(E:Elem P t e sz bytes)(C:o.op=.call {callee:=.builtin .append,args:=#[s,y],argTypes:=#[t,t] })(H:a.eval s=.slice (some ⟨g,0,none⟩) n c)(r:a.eval y=.slice (some ad) m c2)(p:Blk w g e cur)(F:news.length=m*sz)(b:∀j u,news[j]?=some u→w.cell? (ad.add j)=some u)(B:∀u∈news,u.oneCell'=true)(d:n+m≤c)(k:n*sz+news.length≤cur.size)(h:∀w',Blk w' g e (cur.toList.take (n*sz)++news++cur.toList.drop (n*sz+news.length)).toArray→w.grownBy w' (some g)→K (a.put o.dst (.slice (some ⟨g,0,none⟩) (n+m) c)) w'):o.wp P a w K Q:=by
 obtain⟨ht,G,i,z,hi,v,l,D,A⟩:=E;subst l;have q:=run_append_room (P:=P) w t o.type e i ht hi g n c cur p ad m c2 news F b B d k;obtain⟨new,f⟩:∃x,x=(cur.toList.take (n*i.size)++news++cur.toList.drop (n*i.size+news.length)).toArray:=⟨_,rfl⟩;rw[←f]at q h;obtain⟨b1,b2⟩:=Zmk p new;unfold Oper.wp execOp;simp[C,resolve,invoke,builtin,H,r,q,Result.andThen,Oper.upon];exact h _ b1 b2
theorem zeroMsg(w:World):(zeroValue 90).run prog w=.ok (.agg #[.int .i64 0,.int .i64 0,.int .i64 0,.int .i64 0,.int .i64 0,.slice none 0 0,.int .i64 0,.int .i64 0,.slice none 0 0,.slice none 0 0,.int .i64 0,.int .i64 0,.slice none 0 0,.int .i64 0,.int .i64 0,.slice none 0 0,.slice none 0 0,.slice none 0 0,.int .i64 0]) w:=by kernel_rfl
theorem Zsq(tg:Nat×Nat)(v:Value)(xs:List Msg)(i:Nat)(o:Own)(w:World)(hl:Lim o w)(z:Row o tg 19 RMsgZ 90 w v xs)(hi:i<xs.length)(h4:xs.length≤400) :
 Calls prog 93 #[v,.int .i64 (i:Int),.int .i64 ((i+1:Nat):Int)] w fun e w'=>∃v',e=.returned v'∧Fr (fun t=>t=tg) o w o w'∧Row o tg 19 RMsgZ 90 w' v' (xs.eraseIdx i):=by
 obtain⟨css,h1,h2,h3⟩:=z.own
 rcases id h1.2 with ⟨rfl,h0⟩|⟨g,c,cur,rfl,k2,k3,k4,k5,k6,k7⟩
 ·omega
 have T:=z.mark g rfl
 have d:∀j (J:j<css.length),css[j].length=19:=fun j J=>by
  obtain⟨cs,q1,q2,_⟩:=h3 j (by omega);rw[Zp J]at q1;injection q1 with q1;rw[q1];exact q2
 obtain⟨n,hn⟩:∃n,Hid (xs.length=n):=⟨_,rfl⟩;rw[hn.out]at hi h4 k4 k7⊢;obtain⟨j,J⟩:∃j,j=i+1:=⟨_,rfl⟩;have gf:j≤n:=by omega
 have hc:c≤140737488355328∨True:=.inr trivial;have hB:Blk w g 90 cur:=k3;have gd:(i:Int)<n:=by omega
 have gj:(j:Int)≤n:=by omega
 have g3:(i:Int)≤j:=by omega
 have hw:(n:Int)≤c:=by omega
 have g1:(i:Int)≤c:=by omega
 have gq:i≤c:=by omega
 have g8:i<c:=by omega
 have g0:j≤c:=by omega
 have g2:(j:Int)≤c:=by omega
 have gb:((i:Int)==(j:Int))=false:=by simp;omega
 rw[←J];have Hj:=Zb J;clear J hc;go_enter func93,ntmps93;go_upto_region 5 with fail;obtain⟨p,hp⟩:∃p,p+1=n:=⟨n-1,by omega⟩;obtain⟨news,a⟩:∃x,Hid ((css.drop j).flatten=x):=⟨_,rfl⟩;have I:css.length=n:=by rw[←hn.out];exact h2
 have f:Hid (news.length=(n-j)*19):=by
  show _=_;rw[←a.out,Zh4 (sz:=19) (fun q B=>by rw[List.getElem_drop];exact d _ _),List.length_drop,I]
 have hr:css.flatten.length=n*19:=by rw[h1.1,hn.out]
 have Q:Hid (∀u∈news,u.oneCell'=true):=by
  intro u hu;rw[←a.out]at hu;obtain⟨cs,hm,Y⟩:=List.mem_flatten.1 hu;obtain⟨q,B,rfl⟩:=List.getElem_of_mem (List.mem_of_mem_drop hm);obtain⟨cs',r1,r2,r3⟩:=h3 q (by omega);rw[Zp B]at r1;injection r1 with r1;rw[r1]at Y;obtain⟨⟨vt,vb,vp,vd,cb,cp,cv,rfl,rm⟩,_⟩:=r3;obtain⟨⟨tA,tc,rfl⟩,⟨bA,bc,rfl⟩,⟨pA,pc,rfl⟩,⟨dA,dc,rfl⟩,⟨cA,cc,rfl⟩,⟨qA,qc,rfl⟩,⟨eA,ec,rfl⟩⟩:=rm.forms;exact List.all_eq_true.1 (show((msgC xs[q] (.slice tA xs[q].bat.txs.length tc) (.slice bA xs[q].hdr.batches.length bc) (.slice pA xs[q].hdr.parents.length pc) (.slice dA xs[q].slt.digest.length dc) (.slice cA xs[q].crt.hdr.batches.length cc) (.slice qA xs[q].crt.hdr.parents.length qc) (.slice eA xs[q].crt.voters.length ec)).toList.all fun u=>u.oneCell')=true from rfl) u Y
 have hv:Hid (∀W,Below w.heap.size w W→∀q u,news[q]?=some u→W.cell? ((⟨g,j*19,none⟩:Addr).add q)=some u):=by
  intro W hW q u hu;rw[Zbs,(hB.kept hW).cell];have B:q<(n-j)*19:=by rw[←f.out];exact(List.getElem?_eq_some_iff.1 hu).1
  have he:j*19+q<n*19:=by
   have:j*19+(n-j)*19=n*19:=by rw[←Nat.add_mul];congr 1;omega
   omega
  rw[Ztu k7 he];rw[←a.out,←(Zhc d (by omega)).2,List.getElem?_drop]at hu;exact hu
 have hb:Hid ((css.eraseIdx i).flatten=css.flatten.take (i*19)++news):=by
  show _=_;rw[Zvc d (by omega),←a.out,←(Zhc d (show j≤css.length by omega)).2,Hj.out]
 have O:i+(n-j)=p:=by have:=Hj.out;omega
 have r:cur.size=c*19:=k6
 have h5:Hid ((cur.toList.take (i*19)++news++cur.toList.drop (i*19+news.length)).toArray.size=c*19):=by
  show _=_;simp;rw[f.out,r];have:=Hj.out;omega
 have R:Hid ((cur.toList.take (i*19)++news++cur.toList.drop (i*19+news.length)).toArray.toList.take (p*19)=css.flatten.take (i*19)++news):=by
  show _=_;have e1:cur.toList.take (i*19)=css.flatten.take (i*19):=by rw[←k7,List.take_take,Nat.min_eq_left (by omega)]
  have e2:(css.flatten.take (i*19)++news).length=p*19:=by rw[Zl,List.length_take,hr,f.out];omega
  show List.take (p*19) (cur.toList.take (i*19)++news++cur.toList.drop (i*19+news.length))=_;rw[e1,←e2];exact List.take_left
 have gm:p<c:=by omega
 have g9:(p:Int)<c:=by omega
 have ga:(p:Int)≤n:=by omega
 have hy:(p:Int)≤c:=by omega
 have gi:p≤n:=by omega
 have Z:p≤c:=by omega
 have g7:¬(c=p):=by omega
 have hg:¬(p=c):=by omega
 go_cut [0] (fun v w'=>∃cur1,v=.slice (some ⟨g,0,none⟩) p c∧w.grownBy w' (some g)∧Blk w' g 90 cur1∧cur1.size=c*19∧cur1.toList.take (p*19)=css.flatten.take (i*19)++news)
 case first =>
  by_cases gp:j<c
  ·have hz:(j:Int)<c:=by omega
   have gg:¬c=j:=by omega
   have D:news.length=(n-j)*19:=f.out;refine Zt (fun w'=>Below w.heap.size w w') (fun w'=>w.grownBy w' (some g)) [7] (.q 0 (.q 1 (.q 2 (.q 3 (.q 4 (.q 5 (.l 6 (.qc 7 .nil)))))))) ?_ ?_
   ·exact⟨Zad _,Zbf _ _⟩
   intro W3 k hS
   repeat(refine Zq ?_;simp only[sx])
   refine Zd fun K hK=>?_
   try simp only[sy]
   refine Zhl (m:=n-j) (ad:=⟨g,j*19,none⟩) (news:=news) _ _ Zjs rfl rfl rfl (hB.kept k) D (hv.out W3 k) Q.out (by omega) (by rw[f.out,r];omega) ?_;intro w4 C E;have b:=Zae (Zal (some g) k) E;rw[show i+(n-j)=p from O];refine hK.out _ _ (b) fun hS=>?_
   clear hK K
   try simp only[sx]
   repeat(refine Zq ?_;simp only[sx])
   refine Zai ?_;go_wp2_with fail;go_meet;exact⟨_,rfl,b,C,h5.out,R.out⟩
  ·have e:c=j:=by omega
   have e2:n=j:=by omega
   have gn:¬n<n:=by omega
   have g5:¬(n:Int)<n:=by omega
   have D:news.length=0*19:=by rw[f.out];omega
   have ht:i+0=p:=by have:=Hj.out;omega
   subst e;subst e2;refine Zt (fun w'=>Below w.heap.size w w') (fun w'=>w.grownBy w' (some g)) [7] (.q 0 (.q 1 (.q 2 (.q 3 (.q 4 (.q 5 (.l 6 (.qc 7 .nil)))))))) ?_ ?_
   ·exact⟨Zad _,Zbf _ _⟩
   intro W3 k hS
   repeat(refine Zq ?_;simp only[sx])
   refine Zd fun K hK=>?_
   try simp only[sy]
   refine Zhl (m:=0) (ad:=⟨g,0,none⟩) (news:=news) _ _ Zjs rfl rfl rfl (hB.kept k) D (fun q u hu=>by have:=(List.getElem?_eq_some_iff.1 hu).1;omega) Q.out (by omega) (by rw[f.out,r];omega) ?_;intro w4 C E;have b:=Zae (Zal (some g) k) E;rw[show i+0=p from ht];refine hK.out _ _ (b) fun hS=>?_
   clear hK K
   try simp only[sx]
   repeat(refine Zq ?_;simp only[sx])
   refine Zai ?_;go_wp2_with fail;go_meet;exact⟨_,rfl,b,C,h5.out,R.out⟩
 case rest =>
  obtain⟨cur1,rfl,U,h,s,ho⟩:=hcut;obtain⟨zs,M⟩:∃zs,Hid ((Builtin.zeroCells (Value.agg #[.int .i64 0,.int .i64 0,.int .i64 0,.int .i64 0,.int .i64 0,.slice none 0 0,.int .i64 0,.int .i64 0,.slice none 0 0,.slice none 0 0,.int .i64 0,.int .i64 0,.slice none 0 0,.int .i64 0,.int .i64 0,.slice none 0 0,.slice none 0 0,.slice none 0 0,.int .i64 0]).cells (n-p)).toList=zs):=⟨_,rfl⟩
  have h7:Hid (zs.length=(n-p)*19):=by
   show _=_;rw[←M.out];unfold Builtin.zeroCells;simp[Value.cells]
  have I:∀ty,(Builtin.clear_ #[111] ty #[.slice (some ⟨g,p*19,none⟩) (n-p) (c-p)]).run prog wc=.ok (.tuple #[]) (wc.setRow g (Zfm cur1 (p*19) zs)):=fun ty=>by
   have:=Zik (P:=prog) (ty:=ty) (c:=c-p) (sz:=19) (off:=p*19) (n:=n-p) underlying111 zeroMsg rfl rfl (by decide) h (by omega) (by rw[s];omega);rw[this,M.out]
  obtain⟨G,H⟩:=Zmk h (Zfm cur1 (p*19) zs);have L:=Zmc (cur:=cur1) (off:=p*19) (zs:=zs) (by rw[h7.out,s];omega);have N:=Zmb (cur:=cur1) (off:=p*19) (zs:=zs) (by rw[h7.out,s];omega);have HS:=Zb (And.intro L N);obtain⟨w9,X⟩:∃w9,wc.setRow g (Zfm cur1 (p*19) zs)=w9:=⟨_,rfl⟩;rw[X]at G H I;generalize Zfm cur1 (p*19) zs=new at *;have hk:=Zae U H;have F:Fr (fun t=>t=tg) o w o w9:=.grown hl hk T rfl;have y:(xs.eraseIdx i).length=p:=by rw[List.length_eraseIdx_of_lt (by rw[hn.out];exact hi),hn.out];omega
  have V:Row o tg 19 RMsgZ 90 w9 (.slice (some ⟨g,0,none⟩) p c) (xs.eraseIdx i):=by
   refine⟨⟨css.eraseIdx i,⟨?_,.inr ⟨g,c,new,by rw[y],Zf _,G,by rw[y];exact Z,k5,?_,?_⟩⟩,?_,fun q B=>?_⟩,fun g' A=>?_⟩
   ·rw[Zh4 (sz:=19) (fun q B=>?_)]
    ·rw[y,List.length_eraseIdx_of_lt (by omega)];congr 1;omega
    ·obtain⟨q',hf,e⟩:=List.getElem_of_mem (List.mem_of_mem_eraseIdx (List.getElem_mem B));rw[←e];exact d q' hf
   ·rw[HS.out.1,s]
   ·rw[y,HS.out.2,ho,←hb.out]
   ·rw[List.length_eraseIdx_of_lt (by omega),List.length_eraseIdx_of_lt (by rw[hn.out];exact hi),h2]
   ·have hh:=B;rw[List.length_eraseIdx_of_lt (by rw[hn.out];exact hi)]at hh
    by_cases S:q<i
    ·obtain⟨cs,r1,r2,r3⟩:=h3 q (by omega);refine⟨cs,by rw[List.getElem?_eraseIdx_of_lt S];exact r1,r2,?_⟩;rw[List.getElem_eraseIdx_of_lt _ S];exact RMsgZ.mono _ _ _ _ r3 F.view
    ·obtain⟨cs,r1,r2,r3⟩:=h3 (q+1) (by omega);refine⟨cs,by rw[List.getElem?_eraseIdx_of_ge (by omega)];exact r1,r2,?_⟩;rw[List.getElem_eraseIdx_of_ge _ (by omega)];exact RMsgZ.mono _ _ _ _ r3 F.view
   ·injection A with A;rw[←A];exact T
  clear G H X L N h U;go_wp2_with fail;go_ret;exact⟨_,rfl,F,V⟩
theorem Ztg(gf:Nat)(f:Ft)(p:Int)(o:Own)(w:World)(hF:FtAt o w gf f)(hp:0≤p)(i:f.away.length≤400) :
 Calls prog 57 #[.pointer (some ⟨gf,0,none⟩),.int .i64 p] w fun e w'=>e=.returned (.int .i64 (if f.away.length=0 then -1 else(pick f p:Int)))∧w'=w:=by
 obtain⟨va,g62,ra⟩:=id hF.away;have z62:=g62.cell (j:=0) (show 0<1 by decide);simp at z62;obtain⟨vaA,vac,d⟩:=ra.form;subst d;obtain⟨n,hn⟩:∃n,Hid (f.away.length=n):=⟨_,rfl⟩;rw[hn.out]at z62 i⊢
 have a:Hid (0<n→(pick f p:Int)=Int.tmod p n):=by
  intro b;unfold pick;rw[hn.out,Int.tmod_eq_emod_of_nonneg hp];have:=Int.emod_nonneg p (show(n:Int)≠0 by omega);omega
 obtain⟨PK,g⟩:∃x,Hid ((pick f p:Int)=x):=⟨_,rfl⟩;rw[g.out]at a⊢;clear hF ra g62;go_enter func57,ntmps57
 by_cases b:n=0
 ·subst b;go_wp2;go_ret;exact⟨rfl,rfl⟩
 ·have k:¬(n:Int)=0:=by omega
  have l:((n:Int)==0)=false:=by simpa using b
  have c:=a.out (by omega);have m:Int.tmod p n=PK:=c.symm;have q:=Zb c;clear c;go_wp2;go_ret;exact⟨by simp[b],rfl⟩
theorem Zur(gf i:Nat)(f:Ft)(o:Own)(w:World)(hF:FtAt o w gf f)(hi:i<f.away.length)(O:f.away.length≤400) :
 Calls prog 58 #[.pointer (some ⟨gf,0,none⟩),.int .i64 (i:Int)] w fun e w'=>∃vt vb vp vd cb cp cv,e=.returned (.agg (msgC f.away[i] vt vb vp vd cb cp cv))∧∃o',Fr All o w o' w'∧FtAt o' w' gf {f with away:=f.away.eraseIdx i }∧RMsg (Zas o' w') f.away[i] vt vb vp vd cb cp cv∧∀s∈f.away[i].bat.txs,s.size≤140737488355328:=by
 have l0:=hF.lim;have K:=Zac w (.cells #[.int .i64 0,.int .i64 0,.int .i64 0,.int .i64 0,.int .i64 0,.slice none 0 0,.int .i64 0,.int .i64 0,.slice none 0 0,.slice none 0 0,.int .i64 0,.int .i64 0,.slice none 0 0,.int .i64 0,.int .i64 0,.slice none 0 0,.slice none 0 0,.slice none 0 0,.int .i64 0] 90);have l:=Blk.new w 90 #[.int .i64 0,.int .i64 0,.int .i64 0,.int .i64 0,.int .i64 0,.slice none 0 0,.int .i64 0,.int .i64 0,.slice none 0 0,.slice none 0 0,.int .i64 0,.int .i64 0,.slice none 0 0,.int .i64 0,.int .i64 0,.slice none 0 0,.slice none 0 0,.slice none 0 0,.int .i64 0];have f1:=Zx1 (T:=fun _=>False) l0 K (b:=w.heap.size) (Za _) l.lt;have m7:=Zc9 o w.heap.size (some (7,w.heap.size));have F1:=hF.fr f1 (fun _ _ _ _ h=>h) (fun h=>h);have A1:Fr All o w _ _:=f1.all;obtain⟨w1,d⟩:∃x:World,x=w.alloc (.cells #[.int .i64 0,.int .i64 0,.int .i64 0,.int .i64 0,.int .i64 0,.slice none 0 0,.int .i64 0,.int .i64 0,.slice none 0 0,.slice none 0 0,.int .i64 0,.int .i64 0,.slice none 0 0,.int .i64 0,.int .i64 0,.slice none 0 0,.slice none 0 0,.slice none 0 0,.int .i64 0] 90):=⟨_,rfl⟩;rw[←d]at l F1 A1;generalize mark o w.heap.size (some (7,w.heap.size))=o1 at *;obtain⟨va,g62,ra⟩:=id F1.away;have z62:=g62.cell (j:=0) (show 0<1 by decide);simp at z62;have J:=ra.ownSl.reads (bs:=264) (fun _ _ _ _ V _=>V) (by omega);obtain⟨A9,c9,rfl,-,-,-,-,D⟩:=J;obtain⟨bb,bo,Y,E⟩:=D (by omega);subst Y;obtain⟨cs9,-,a,⟨vt,vb,vp,vd,cb,cp,cv,rfl,rm⟩,I⟩:=E i hi;obtain⟨n,hn⟩:∃n,Hid (f.away.length=n):=⟨_,rfl⟩;have Q:=hi;rw[hn.out]at Q z62;have H:=O;rw[hn.out]at H;have Hi:=Zb hi;have Z:=Zb O;have h1:(i:Int)<n:=by omega
 have B:Row o1 (5,0) 19 RMsgZ 90 w1 _ f.away:=ra;obtain⟨L,S⟩:∃L,Hid (f.away.eraseIdx i=L):=⟨_,rfl⟩;rw[S.out];have rm':RMsg (Zas o1 w1) f.away[i] vt vb vp vd cb cp cv:=rm;generalize M:f.away[i]=m at *;clear M;replace rm:=rm';clear rm';have rm0:=rm;obtain⟨⟨tA,tc,rfl⟩,⟨bA,bc,rfl⟩,⟨pA,pc,rfl⟩,⟨dA',dc',rfl⟩,⟨cA,cc,rfl⟩,⟨qA,qc,rfl⟩,⟨eA,ec,rfl⟩⟩:=rm0.forms;clear rm0 D E O hi
 have z:∀j v,(#[.int .i64 m.src,.int .i64 m.dst,.int .i64 m.kind,.int .i64 m.bat.author,.int .i64 m.bat.number,.slice tA m.bat.txs.length tc,.int .i64 m.hdr.author,.int .i64 m.hdr.round,.slice bA m.hdr.batches.length bc,.slice pA m.hdr.parents.length pc,.int .i64 m.slt.author,.int .i64 m.slt.round,.slice dA' m.slt.digest.length dc',.int .i64 m.crt.hdr.author,.int .i64 m.crt.hdr.round,.slice cA m.crt.hdr.batches.length cc,.slice qA m.crt.hdr.parents.length qc,.slice eA m.crt.voters.length ec,.int .i64 m.round]:Array Value).toList[j]?=some v→(w1.alloc (.cells #[.int .i64 0,.int .i64 0,.int .i64 0,.int .i64 0,.int .i64 0,.slice none 0 0,.int .i64 0,.int .i64 0,.slice none 0 0,.slice none 0 0,.int .i64 0,.int .i64 0,.slice none 0 0,.int .i64 0,.int .i64 0,.slice none 0 0,.slice none 0 0,.slice none 0 0,.int .i64 0] 90)).cell? ((⟨bb,bo+i*19,none⟩:Addr).add j)=some v:=fun j v r=>by
  have u:j<19:=(List.getElem?_eq_some_iff.1 r).1;rw[Zbs];exact Zaa (Zac _ _) _ _ ((a j u).trans r)
 have p:∀j v,(#[.int .i64 m.src,.int .i64 m.dst,.int .i64 m.kind,.int .i64 m.bat.author,.int .i64 m.bat.number,.slice tA m.bat.txs.length tc,.int .i64 m.hdr.author,.int .i64 m.hdr.round,.slice bA m.hdr.batches.length bc,.slice pA m.hdr.parents.length pc,.int .i64 m.slt.author,.int .i64 m.slt.round,.slice dA' m.slt.digest.length dc',.int .i64 m.crt.hdr.author,.int .i64 m.crt.hdr.round,.slice cA m.crt.hdr.batches.length cc,.slice qA m.crt.hdr.parents.length qc,.slice eA m.crt.voters.length ec,.int .i64 m.round]:Array Value).toList[j]?=some v→w1.cell? ((⟨bb,bo+i*19,none⟩:Addr).add j)=some v:=fun j v r=>by
  have u:j<19:=(List.getElem?_eq_some_iff.1 r).1;rw[Zbs];exact(a j u).trans r
 have C:=Blk.new w1 90 #[.int .i64 0,.int .i64 0,.int .i64 0,.int .i64 0,.int .i64 0,.slice none 0 0,.int .i64 0,.int .i64 0,.slice none 0 0,.slice none 0 0,.int .i64 0,.int .i64 0,.slice none 0 0,.int .i64 0,.int .i64 0,.slice none 0 0,.slice none 0 0,.slice none 0 0,.int .i64 0];have y:=Zac w1 (.cells #[.int .i64 0,.int .i64 0,.int .i64 0,.int .i64 0,.int .i64 0,.slice none 0 0,.int .i64 0,.int .i64 0,.slice none 0 0,.slice none 0 0,.int .i64 0,.int .i64 0,.slice none 0 0,.int .i64 0,.int .i64 0,.slice none 0 0,.slice none 0 0,.slice none 0 0,.int .i64 0] 90);clear a;go_enter func58,ntmps58;go_upto_region 1 with fail;rw[←d];have X:=Zb d;clear d;go_wp2_with (first|(refine Zbe (n:=19) (#[.int .i64 m.src,.int .i64 m.dst,.int .i64 m.kind,.int .i64 m.bat.author,.int .i64 m.bat.number,.slice tA m.bat.txs.length tc,.int .i64 m.hdr.author,.int .i64 m.hdr.round,.slice bA m.hdr.batches.length bc,.slice pA m.hdr.parents.length pc,.int .i64 m.slt.author,.int .i64 m.slt.round,.slice dA' m.slt.digest.length dc',.int .i64 m.crt.hdr.author,.int .i64 m.crt.hdr.round,.slice cA m.crt.hdr.batches.length cc,.slice qA m.crt.hdr.parents.length qc,.slice eA m.crt.voters.length ec,.int .i64 m.round]:Array Value).toList rfl rfl rfl rfl (by kernel_rfl) (by kernel_rfl) (by kernel_rfl) p ?_)|(refine Zbe (n:=19) (#[.int .i64 m.src,.int .i64 m.dst,.int .i64 m.kind,.int .i64 m.bat.author,.int .i64 m.bat.number,.slice tA m.bat.txs.length tc,.int .i64 m.hdr.author,.int .i64 m.hdr.round,.slice bA m.hdr.batches.length bc,.slice pA m.hdr.parents.length pc,.int .i64 m.slt.author,.int .i64 m.slt.round,.slice dA' m.slt.digest.length dc',.int .i64 m.crt.hdr.author,.int .i64 m.crt.hdr.round,.slice cA m.crt.hdr.batches.length cc,.slice qA m.crt.hdr.parents.length qc,.slice eA m.crt.voters.length ec,.int .i64 m.round]:Array Value).toList rfl rfl rfl rfl (by kernel_rfl) (by kernel_rfl) (by kernel_rfl) z ?_)|(refine Zj 19 C ?_));intro w2 R A;have c:Below w1.heap.size w1 w2:=Zab y y.size A (by intro k e;injection e;omega)
 have l1:=F1.lim;have F2:=F1.below c;have l2:=F2.lim;have A2:=All.trans A1 (Fr.of_below (T:=All) l1 c);have F:=l1.none w1.heap.size (Za _);have g:=l.kept c;have rm2:=rm.mono (Zaf l1 c);have ra2:=B.fr RMsgZ.mono (Fr.of_below (T:=fun _=>False) l1 c) (fun h=>h);have g622:=g62.fr (Fr.of_below (T:=fun _=>False) l1 c) F1.mark (fun h=>h);rw[hn.out]at ra2 g622;have z622:=g622.cell (j:=0) (show 0<1 by decide);simp at z622;obtain⟨j,r⟩:∃j,j=i+1:=⟨_,rfl⟩;have hd:=Zsq (5,0) _ f.away i o1 w2 l2 ra2 Hi.out Z.out;rw[←r]at hd;have W:(i:Int)+1=(j:Int):=by omega
 have d:IntKind.i64.wrap (j:Int)=j:=by rw[IntKind.wrap_i64];omega
 clear z p C y A r B F1 A1 rm l g62 z62 ra;go_wp2_with fail;refine hd.mono ?_;rintro e w4 ⟨v4,rfl,f4,r4⟩;rw[S.out]at r4;obtain⟨v4A,v4c,rfl⟩:=r4.form;have g624:=g622.fr f4 F2.mark (by simp);clear hd z622;go_wp2_with (refine Sec.store g624 (i:=0) [.slice v4A L.length v4c] (show 0+1≤1 by decide) rfl rfl rfl rfl (by kernel_rfl) rfl rfl ?_);intro w5 S5 t U;have F5:=F2.newAway f4 r4 S5 t U;have m5':=Zb6 F2.sg.rogue.lt f4 F2.mark (by simp);have k5:=Zap f4.lim t m5';have A5:=All.trans A2 (All.trans f4.all k5.all);have q:=Zn0 (Zn0 g f4 m7 (by simp)) k5 (Zb6 g.lt f4 m7 (by simp)) (by simp);have G:=Za3 (Za3 R f4 F) k5 F;have rm5:=(rm2.mono f4.view).mono k5.view;clear F2 A2 g rm2 ra2 g622 f4 r4 g624 t U k5 S5;go_wp2_with (first|(refine wpList_load_row rfl 90 _ rfl _ rfl _ _ _ _ G underlying90 rfl (by kernel_rfl) ?_)|(refine Zj 19 q ?_));intro w6 P N;have k6:=Zap F5.lim N m7;have F6:=F5.fr k6 (fun j m _ _ e=>by injection e;omega) (by simp);have A6:=All.trans A5 k6.all;have rm6:=rm5.mono k6.view;clear F5 A5 rm5 G q R;go_wp2;refine bodyPost_ret (Zay rfl rfl (by kernel_rfl) (by kernel_rfl) P rfl) rfl ?_;exact⟨_,_,_,_,_,_,_,rfl,o1,A6,F6,rm6,I⟩
def subE(rogue:Int)(n:Nd)(t:ByteArray):Int:=if n.up=false∨n.me=rogue then 12 else addF n.nx n.txs t
def subN(rogue:Int)(n:Nd)(t:ByteArray):Nd:=if subE rogue n t=0 then {n with txs:=n.txs++[t] } else n
theorem Zui(gf i:Nat)(rogue:Int)(signs:List Sign)(n:Nd)(t:ByteArray)(o:Own)(w:World)(C:Lim o w)(hi:i<4)(U:SgAt o w gf rogue signs)(hN:NodeAt o w i 0 gf (1+i*15) n)(hp:Zdt n.nx n.txs=0)(ht:t.size≤140737488355328) :
 Calls prog 56 #[.pointer (some ⟨gf,0,none⟩),.pointer (some ⟨gf,1+i*15,none⟩),.string t] w fun e w'=>e=.returned (.int .i64 (subE rogue n t))∧NFr i 0 gf (1+i*15) o w o w'∧NodeAt o w' i 0 gf (1+i*15) (subN rogue n t):=by
 obtain⟨E,M⟩:∃E,Hid (subE rogue n t=E):=⟨_,rfl⟩;have O:Hid (subN rogue n t=if E=0 then {n with txs:=n.txs++[t] } else n):=by show _=_;unfold subN;rw[M.out]
 have N:Hid (E=if n.up=false∨n.me=rogue then 12 else addF n.nx n.txs t):=M.out.symm;rw[M.out];have T:=Zb hp;have S:=Zb ht;clear hp ht M;obtain⟨h6,⟨vtx,vba,vdi,vta,vda,vow,vmi,vvo,vtp,vou⟩,S1,R1⟩:=id hN;have s0:=S1.nd0;have s1:=S1.nd1;have s2:=S1.nd2;have s3:=S1.nd3;simp only at s0 s1 s2 s3;have g0:=U.rogue.cell (j:=0) (show 0<1 by decide);simp at g0;obtain⟨UP,A⟩:∃u,Hid (n.up=u):=⟨_,rfl⟩;rw[A.out]at s1;have rtx:RTexts w.cell? vtx n.txs:=R1.tx.mono (Zah _ _);have small:=R1.small;obtain⟨txA,txc,z,_⟩:=id rtx;have z:vtx=.slice txA n.txs.length txc:=z;subst z;have h3:=U;go_enter func56,ntmps56;go_upto_region 1 with fail
 have bad:∀(W:World),Below w.heap.size w W→∀F:Int,F≠0→Hid (E=F)→NodeAt o W i 0 gf (1+i*15) (subN rogue n t):=fun W X F hF P=>by
  rw[O.out,if_neg (by rw[P.out];exact hF)];exact hN.below C X
 cases UP
 ·have p:Hid (E=12):=by show _=_;rw[N.out,if_pos (.inl A.out)]
  refine Zr [] (.q 0 (.q 1 (.q 2 (.q 3 (.q 4 (.q 5 (.q 6 (.q 7 (.q 8 (.q 9 (.q 10 (.q 11 (.q 12 (.q 13 (.q 14 (.q 15 .nil)))))))))))))))) fun W2 a=>?_
  repeat((first|refine pq (h:=⟨_,fun w' l=>by(have z0:=Zaa l _ _ s0;have z1:=Zaa l _ _ s1;have z2:=Zaa l _ _ g0;go_simp;exact rfl),?_⟩)|refine Zq ?_);simp only[sx])
  refine Zai ?_;have L:=bad W2 a 12 (by decide) p;go_wp2;go_ret;exact⟨Zak p.out.symm,(NFr.refl C).below a,L⟩
 by_cases D:n.me=rogue
 ·have R:(n.me==rogue)=true:=by simpa using D
  have p:Hid (E=12):=by show _=_;rw[N.out,if_pos (.inr D)]
  clear D;refine Zr [] (.q 0 (.q 1 (.q 2 (.q 3 (.q 4 (.q 5 (.q 6 (.q 7 (.q 8 (.q 9 (.q 10 (.q 11 (.q 12 (.q 13 (.q 14 (.q 15 .nil)))))))))))))))) fun W2 a=>?_
  repeat((first|refine pq (h:=⟨_,fun w' l=>by(have z0:=Zaa l _ _ s0;have z1:=Zaa l _ _ s1;have z2:=Zaa l _ _ g0;go_simp;exact rfl),?_⟩)|refine Zq ?_);simp only[sx])
  refine Zai ?_;have L:=bad W2 a 12 (by decide) p;go_wp2;go_ret;exact⟨Zak p.out.symm,(NFr.refl C).below a,L⟩
 have R:(n.me==rogue)=false:=by simpa using D
 have p:Hid (E=addF n.nx n.txs t):=by show _=_;rw[N.out,if_neg (fun e=>e.elim (fun h=>by rw[A.out]at h;cases h) D)]
 clear D N;refine Zr [] (.q 0 (.q 1 (.q 2 (.q 3 (.q 4 (.q 5 (.q 6 (.q 7 (.q 8 (.q 9 (.q 10 (.q 11 (.q 12 (.q 13 (.q 14 (.q 15 .nil)))))))))))))))) fun W2 a=>?_
 repeat((first|refine pq (h:=⟨_,fun w' l=>by(have z0:=Zaa l _ _ s0;have z1:=Zaa l _ _ s1;have z2:=Zaa l _ _ g0;go_simp;exact rfl),?_⟩)|refine Zq ?_);simp only[sx])
 refine Zai ?_;have y2:=Zaa a _ _ s2;have y3:=Zaa a _ _ s3;have l2:=Zam C a;have N2:=hN.below C a;have K2:NFr i 0 gf (1+i*15) o w o W2:=(NFr.refl C).below a;have rtx2:=rtx.mono (Zaa a);clear s0 s1 s2 s3 g0 S1 R1
 by_cases v:E=0
 rotate_left
 ·go_wp2_with fail;refine(Zrq n.nx _ n.txs t W2 rtx2 small S.out E p.out.symm v (fun h=>(Zdx.1 h).2.1)).mono ?_
  rintro e w3 ⟨rfl,c⟩;have L:=bad w3 (a.trans (c.mono a.size)) E v rfl;have K3:=K2.below c;have Z:(E==0)=false:=by simpa using v
  have l3:=Zam l2 c;clear bad O p v;go_wp2;go_ret;exact⟨rfl,K3.below (Zac _ _),L.below l3 (Zac _ _)⟩
 have y:=p.out.symm.trans v;have Q:Hid (E=0):=v;have b:addF n.nx n.txs t=0:=y
 have f:txOk t=true∧Zcy n.txs t=false∧n.txs.length<40:=by
  unfold addF at b;rw[if_neg (by rw[T.out];simp)]at b;split at b
  ·rename_i Y;split at b
   ·cases b
   ·rename_i V;split at b
    ·cases b
    ·exact⟨Y,by simpa using V,by omega⟩
  ·cases b
 have r:=Zb f;have I:Hid (subN rogue n t={ n with txs:=n.txs++[t] }):=by show _=_;rw[O.out,if_pos v]
 clear y b f bad O p v;go_wp2_with fail;refine(Zuu n.nx _ n.txs t W2 rtx2 small S.out T.out r.out.1 r.out.2.1 r.out.2.2).mono ?_;rintro e w3 ⟨d,rfl,c,od⟩;obtain⟨dA,dc,rfl⟩:=od.form;have N3:=N2.below l2 c;have K3:=K2.below c;have l3:=Zam l2 c;have rd3:RTexts (Zas o w3) _ (n.txs++[t]):=(od.from_ (bs:=16) (by have:=r.out.2.2;simp;omega) (Za _)).mono (Zbz l2);clear y2 y3 N2 K2 rtx2 od;go_upto_region 4 with fail;refine Zo fun W4 B G m=>?_
 have N4:=N3.below l3 m;have K4:=K3.below m;have l4:=Zam l3 m;have rd4:=rd3.mono (Zaf l3 m);rw[Zl,List.length_singleton]at rd4;have c0:=B.cell 0;have c1:=B.cell 1;simp at c0 c1;obtain⟨g,⟨xtx,xba,xdi,xta,xda,xow,xmi,xvo,xtp,xou⟩,S4,R4⟩:=id N4;clear N3 K3 l3 rd3 c m G B N4;go_wp2_with (refine Sec.store S4 (i:=2) [.int .i64 n.nx,.slice dA (n.txs.length+1) dc] (show 2+2≤15 by decide) rfl rfl rfl rfl (by kernel_rfl) rfl rfl ?_);intro w5 S5 H h5;have f5:=Zap l4 H g
 have R5:=(R4.fr f5 (fun k e=>by injection e;omega)).setTx (x:=n.nx) (rd4.mono f5.view) (fun s K=>by
  rcases List.mem_append.1 K with K|K
  ·exact small s K
  ·rw[Zv K];exact S.out)
 have K5:=K4.store g H h5 (show 2+2≤15 by decide);have S5:=S5.putPool (xs:=n.txs++[t]);have J:NodeAt o w5 i 0 gf (1+i*15) (subN rogue n t):=by rw[I.out];exact⟨g,_,S5,R5⟩
 clear S5 R5 S4 R4 I;go_wp2;go_ret;exact⟨Zak Q.out.symm,K5,J⟩
theorem Zmf(v:Value)(l:List (List UInt8))(w:World)(H:RDigs w.cell? v l) :
 Calls prog 64 #[v] w fun e w'=>∃v',e=.returned v'∧Below w.heap.size w w'∧RDigs (View.from w'.cell? w.heap.size) v' l:=by
 have m:l.length*24≤140737488355328:=by obtain⟨A,c,_,_,_,h,_⟩:=H;exact h
 obtain⟨A,c,rfl,P⟩:=id H;clear P;obtain⟨_,_,_,D⟩:=H.at;have x:=Zb D;clear D;have d:=Zb m;go_enter func64,ntmps64;go_wp2_with fail
 go_loopw [3,5,8] (fun u _ i wr=>∃k:Nat,k≤l.length∧i=.int .i64 k∧OwnSl 1 (RFrom w.heap.size RDig) 53 wr w.heap.size u (l.take k)∧Below w.heap.size w wr) (fun _ _ i _=>l.length-(intOf i).toNat)
 case atStart=>exact⟨0,Zf _,rfl,OwnSl.nil _ _ _ _ _,Zm _ _⟩
 case round =>
  obtain⟨k,Q,rfl,a,b⟩:=hrel;have G:=b.size
  by_cases s:k<l.length
  ·obtain⟨b0,o0,vd,rfl,q0,rdk⟩:=x.out k s;have c0:=Zaa b _ _ q0;have rd':=rdk.mono (Zaa b);have K:=Zb (Zn s);have p:=Zb (show(l.take k).length=k by simp;omega);have F:=Zb (show l[k].length*1≤140737488355328 from rdk.len);obtain⟨E1A,E1c,rfl,E⟩:=id rdk;clear q0 rdk E;generalize l.take k=L at a K p;generalize l[k]=y at *;have o:=a.lt;obtain⟨nA,nc,rfl⟩:=a.form;have t:(k:Int)<l.length:=by omega
   have J:(k:Int)<140737488355328:=by omega
   clear m;go_wp2_with fail;refine(Zcj _ y _ rd').mono ?_;rintro e w4 ⟨td,rfl,j,o4⟩;have f:=a.kept (RFrom.mono Ze) j;have M:=j.size
   have rR:RFrom w.heap.size RDig (View.but w4.cell? (Value.slice nA L.length nc).ownBlock) [td] y :=
    ⟨_,rfl,o4.reads_from F.out (by omega) (fun g O=>by have:=(o g O).2;omega)⟩
   obtain⟨A1,c1',rfl⟩:=o4.form;clear o4 a;go_wp2_with (refine Zaz (n:=140737488355328) (RFrom.mono Ze) y [.slice A1 y.length c1'] Ze2 _ _ rfl rfl rfl f (W:=w4) (Zm _ _) (by omega) rfl rfl rfl rfl rR (Za _) (by rw[p.out];have:=d.out;omega) (by rw[p.out];have:=d.out;omega) (fun v2 w6 r I B=>?_));rw[←K.out]at r;have C:Below w.heap.size w w6:=Zab (b.trans (j.mono G)) (by omega) B (fun q N=>by have:=(o q N).1;omega);obtain⟨A6,c6,rfl⟩:=r.form;clear f rR j B I c0 rd';go_wp2;go_roundw
   case rel=>exact⟨k+1,by omega,by go_num,r,C⟩
   case measure=>simp[intOf];omega
  ·have z:k=l.length:=by omega
   rw[z,List.take_length]at a;obtain⟨nA,nc,rfl⟩:=a.form;have t:¬(k:Int)<l.length:=by omega
   clear x z;go_wp2;go_ret;exact⟨_,rfl,b,a.reads_from Ze d.out⟩
end Fl
end Go.Proofs.YtbcpbnfojfiekaaGreatDoor
