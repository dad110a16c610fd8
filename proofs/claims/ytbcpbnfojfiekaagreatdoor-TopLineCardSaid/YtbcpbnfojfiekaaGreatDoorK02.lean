/- A part of what the last text stands on. -/
import Derived.Lib.ConvBytes
import Derived.Laws.BytesArg
import Derived.Laws.BitsLemmas
import Derived.Lib.EndianBits
import Derived.WalkSpells
import Derived.Lib.Builder
import Derived.Lib.AtoiAllCases
import Derived.Lib.ItoaNum
import Derived.Lib.SplitLaws
import Derived.Lib.CutLaws
import Derived.Lib.IndexLaws
import GoSem.Op.String
import Derived.Test.YtbcpbnfojfiekaaGreatDoorK01
namespace Go.Proofs.YtbcpbnfojfiekaaGreatDoor
namespace Qa
end Qa
namespace Qb
end Qb
namespace Qc
end Qc
open Go.ChangeShapes Go.WideShapes Go.ChangeAt Go.RowKit Go.Proofs.Tryz Qa Qb Qc
set_option linter.all false
set_option maxHeartbeats 20000000
set_option maxRecDepth 100000
variable{P:Program}{w' W wr:World}{a:Act}{o:Oper}{ops:Array Oper}{rest:List Oper}{Q:Exit→Act→World→Prop}{K:Act→World→Prop}{v:Value}{cs:Array Value}{h:View}{e t te:TypeId}{k i j g off bs b c:Nat}{x y:Operand}{α:Type}{xs:List α}{enc:α→Value}
section
variable {P:Program} {ops:Array Oper} {Q:Exit→Act→World→Prop} {S:World→Prop}
def Zno(ops:Array Oper):List (Nat×Bool)→Array Bool→Bool
 |[],listed=>(Region.ready .any ops listed).isEmpty
 |(i,q)::rest,listed=>(if q then Region.free .any ops listed i&&(Region.ready .any ops listed).contains i else Region.ready .any ops listed==[i])&&Zno ops rest (listed.setIfInBounds i true)
def Zgp(P:Program)(ops:Array Oper)(Q:Exit→Act→World→Prop)(S:World→Prop):List (Nat×Bool)→Act→World→Prop
 |[],a,w=>Q .normal a w
 |(i,true)::rest,a,w=>∃o v,ops[i]?=some o∧YieldsIf P ops S o v a∧Zgp P ops Q S rest (a.put o.dst v) w
 |(i,false)::rest,a,w=>wpOp P ops Q i (fun a' w'=>S w'∧(S w'→Zgp P ops Q S rest a' w')) a w
theorem Zgo(e:Region.noSelect ops=true)(f:∀c a d v w,Q (.panic c) (Act.put a d v) w→Q (.panic c) a w) :
 ∀(π:List (Nat×Bool)) (listed:Array Bool) (a:Act) (w:World),Zno ops π listed=true→S w→Zgp P ops Q S π a w→wpAnyH P .any ops Q S π.length listed a w
 |[],listed,a,w,hp,_,h=>⟨by simpa[Zno]using hp,h⟩
 |(i,true)::rest,listed,a,w,hp,hS,h=>by
  obtain⟨o,v,g,k,m⟩:=h
  simp only[Zno,if_true,Bool.and_eq_true]at hp
  exact wpAnyH_take g e hp.1.1 hp.1.2 (fun c a w=>f c a o.dst v w) k hS (Zgo e f rest _ _ w hp.2 hS m)
 |(i,false)::rest,listed,a,w,hp,hS,h=>by
  simp only[Zno,Bool.false_eq_true,if_false,Bool.and_eq_true,beq_iff_eq]at hp
  refine wpAnyH_all hp.1 (by simp) (fun j l=>?_)
  rw[Zv l]
  exact wpOp_mono (fun a' w' b=>⟨b.1,Zgo e f rest _ a' w' hp.2 b.1 (b.2 b.1)⟩) h
theorem Zch{id:Nat}{l:List Oper}{w:World}(S:World→Prop)(π:List (Nat×Bool))(f:P.follows .mixedOrders=true)(g:Region.noSelect l.toArray=true)(j:∀c a d v w,Q (.panic c) (Act.put a d v) w→Q (.panic c) a w)(b:π.length=l.length)(i:Zno l.toArray π (Array.replicate l.length false)=true)(e:S w.drew)(h:∀W,S W→Zgp P l.toArray Q S π a W):(Code.region id l.toArray true).wp P Q a w:=by
 refine wp_region_held f (S:=S) ?_;have:=Zgo (P:=P) (S:=S) g j π (Array.replicate l.length false) a w.drew i e (h _ e);rw[b]at this;simpa using this
theorem Zeq{w:World}(h:Q .normal a w):Zgp P ops Q S [] a w:=h
theorem Zbd{rest:List (Nat×Bool)}{w:World}(b:ops[i]?=some o)(c:Region.wanted o (yielded ops a.tmps)=true)(h:∃v,(∀w,S w→(execOp a.eval o).run P w=.ok (.value v) w)∧Zgp P ops Q S rest (a.put o.dst v) w):Zgp P ops Q S ((i,true)::rest) a w :=
 let ⟨v,hv,h⟩:=h
 ⟨o,v,b,.inl ⟨c,hv⟩,h⟩
theorem Zbi{q:Bool}{rest:List (Nat×Bool)}{w:World}(d:S w)(b:ops[i]?=some o)(c:Region.wanted o (yielded ops a.tmps)=false)(h:Zgp P ops Q S rest (a.put o.dst undef) w):Zgp P ops Q S ((i,q)::rest) a w:=by
 cases q with
 |true=>exact⟨o,undef,b,.inr ⟨c,rfl⟩,h⟩
 |false =>
  show wpOp _ _ _ _ _ _ _;unfold wpOp;simp only[b,c];exact⟨d,fun _=>h⟩
theorem Zd2{rest:List (Nat×Bool)}{w:World}(c:ops[i]?=some o)(d:Region.wanted o (yielded ops a.tmps)=true)(h:∀K:Act→World→Prop,Shut (∀a' w',S w'→(S w'→Zgp P ops Q S rest a' w')→K a' w')→Oper.wp P o a w K Q):Zgp P ops Q S ((i,false)::rest) a w:=by
 show wpOp _ _ _ _ _ _ _;unfold wpOp;simp only[c,d,if_true];exact .inl (h _ (fun a' w' b e=>⟨b,e⟩))
end
theorem sy:(∀{α:Type} {xs:List α} {i:Nat} (h:i<xs.toArray.size),xs.toArray[i]'h=xs[i]'(by simpa using h))∧(∀{α:Type} {a:α} {l:List α} (h:0<(a::l).length),(a::l)[0]'h=a)∧(∀{α:Type} {a:α} {l:List α} {i:Nat} (h:i+1<(a::l).length),(a::l)[i+1]'h=l[i]'(by simpa using h)) :=
 ⟨fun h=>by simp,fun h=>rfl,fun h=>rfl⟩
theorem sx:(∀{α:Type} {xs:List α} {i:Nat} (h:i<xs.toArray.size),xs.toArray[i]'h=xs[i]'(by simpa using h))∧(∀{α:Type} {a:α} {l:List α} (h:0<(a::l).length),(a::l)[0]'h=a)∧(∀{α:Type} {a:α} {l:List α} {i:Nat} (h:i+1<(a::l).length),(a::l)[i+1]'h=l[i]'(by simpa using h))∧(∀{α:Type} (l:List α) (i:Nat) (a:α),l.toArray.setIfInBounds i a=(l.set i a).toArray)∧(∀{α:Type} (a b:α) (l:List α),(a::l).set 0 b=b::l)∧(∀{α:Type} (a b:α) (l:List α) (i:Nat),(a::l).set (i+1) b=a::l.set i b)∧(∀(a:Act) (d:Tmp) (v:Value),a.put (some d) v={ a with tmps:=a.tmps.setIfInBounds d v })∧(∀(a:Act) (v:Value),a.put none v=a) :=
 ⟨fun h=>by simp,fun h=>rfl,fun h=>rfl,fun _ _ _=>by simp,fun _ _ _=>rfl,fun _ _ _ _=>rfl,fun _ _ _=>rfl,fun _ _=>rfl⟩
theorem Za7:Zkm prog 53 5 1:=elem1 (z:=.int .u8 0) underlying53 (by kernel_rfl) rfl
theorem Zl0:Zkm prog 42 9 16:=elem1 (z:=.string ByteArray.empty) underlying42 (by kernel_rfl) rfl
def encS(s:ByteArray):Value:=.string s
theorem Zb0(b:UInt8):(encB b).oneCell'=true:=rfl
theorem Zir(b:ByteArray):(encS b).oneCell'=true:=rfl
abbrev RTexts:=RVec encS 16
abbrev OwnB:=OwnVec encB 5
abbrev OwnS:=OwnVec encS 9
def Zb9(s:ByteArray):List UInt8:=s.data.toList
theorem Zci(s:ByteArray):(Zb9 s).length=s.size:=by unfold Zb9;rw[Array.length_toList];rfl
section
variable {P:Program} (w:World)
theorem Zij(n:Nat)(s:ByteArray)(size:Nat)(hn:n=s.size):(Builtin.firstCells size n (.string s)).run P w=.ok ((Zb9 s).map encB).toArray w:=by
 subst hn;obtain⟨⟨l⟩⟩:=s;simp[Builtin.firstCells,Zb9];intro a _;rfl
theorem Zmx(t u ty e:TypeId)(i:TypeInfo)(z:Value)(base:Nat)(ht:P.underlying t=some (.slice e))(hu:P.underlying u=some .string)(hi:P.info? e=some i)(S:i.zero=some z)(c:i.size=1)(A:i.bytes=1)(L:z.cells.size=1)(v:Value)(n:Nat)(xs:List Value)(b:w.ownsRow base e 1 v n xs)(s:ByteArray)(l:n+s.size≤140737488355328)(D:base≤w.heap.size) :
 ∃v' w',(Builtin.append_ #[t,u] ty #[v,.string s]).run P w=.ok v' w'∧w'.ownsRow base e 1 v' (n+s.size) (xs++(Zb9 s).map encB)∧w.grownBy w' v.ownBlock:=by
 obtain⟨news,a⟩:∃news,news=(Zb9 s).map encB:=⟨_,rfl⟩;have H:news.length=s.size:=by rw[a,List.length_map,Zci]
 have W:∀u∈news,u.oneCell'=true:=fun u hu=>by rw[a]at hu;obtain⟨x,_,rfl⟩:=List.mem_map.1 hu;rfl
 have r:∀w:World,(Builtin.firstCells 1 s.size (.string s)).run P w=.ok news.toArray w:=fun w=>by rw[a];exact Zij w s.size s 1 rfl
 rw[←a];clear a;have y:s.size=s.size:=rfl;obtain⟨m,G⟩:∃m,s.size=m:=⟨_,rfl⟩;rw[G]at H r l⊢;have y:=G;have M:n+m≤maxLen:=Zbw l;have I:n+m≤9223372036854775807:=by omega
 have f:(xs++news).length=(n+m)*1:=by rw[Zl,b.1,H,Nat.add_mul];omega
 have grown:∀(old:Nat),old<n+m→∀(row:Option Nat),
  (w.drew.alloc (.cells (xs.toArray++news.toArray++Builtin.zeroCells z.cells (grownCap w (n+m) old e-(n+m))) e)).ownsRow base e 1
   (.slice (some ⟨w.heap.size,0,none⟩) (n+m) (grownCap w (n+m) old e)) (n+m) (xs++news) ∧
  w.grownBy (w.drew.alloc (.cells (xs.toArray++news.toArray++Builtin.zeroCells z.cells (grownCap w (n+m) old e-(n+m))) e)) row:=by
  intro old Y row;have Q:=grownCap_ge w (n+m) old e;have B:grownCap w (n+m) old e≤maxLen:=grownCap_le_maxLen w (n+m) old e M;refine⟨⟨f,.inr ⟨w.heap.size,_,_,rfl,D,heap_alloc_new w.drew _,Q,B,?_,?_⟩⟩,⟨rfl,rfl,rfl,by simp,fun k N _=>Below.heap_alloc w.drew _ k N⟩⟩
  ·simp only[Array.size_append,List.size_toArray,size_zeroCells,L,b.1,H];omega
  ·simp only[Array.toList_append,List.append_assoc];rw[←List.append_assoc,←f];exact List.take_left
 rcases b.2 with ⟨rfl,rfl⟩|⟨g,cap,cur,rfl,K,U,X,B,J,C⟩
 ·have V:xs=[]:=List.eq_nil_of_length_eq_zero (by simpa using b.1);subst V
  by_cases T:m=0
  ·subst T;have hn:news=[]:=List.eq_nil_of_length_eq_zero (by simpa using H);subst hn;refine⟨.slice none 0 0,w,?_,World.ownsRow_nil w base e 1,⟨rfl,rfl,rfl,Za _,fun _ _ _=>rfl⟩⟩;simp[Builtin.append_,run_underlying ht,run_underlying hu,sizeOf,typeInfo,hi,Builtin.lenOf,c,y,r,storeCells]
  ·have o:=grown 0 (by omega) (Value.ownBlock (.slice none 0 0));simp only[Nat.zero_add,List.nil_append]at o⊢;refine⟨_,_,?_,o.1,o.2⟩;have q:¬(9223372036854775807<(m:Int)):=by omega
   have p:¬(281474976710656<Builtin.nextslicecap m 0*i.bytes):=by rw[nextslicecap_zero (by omega),A];omega
   have O:(Builtin.firstCells 1 0 (.slice none 0 0)).run P w.drew=.ok #[] w.drew:=by simp[Builtin.firstCells]
   simp[Builtin.append_,run_underlying ht,run_underlying hu,sizeOf,typeInfo,zeroValue,hi,S,Builtin.lenOf,T,O,q,p,Question.forced,newRow,grownCap,c,r,y]
 ·by_cases d:n+m≤cap
  ·have F:n*1+news.length≤cur.size:=by rw[H,J];omega
   have E:=run_storeCells_at P g (n*1) e news 0 cur w U (by simpa using F) W;simp only[Nat.add_zero,Nat.mul_one]at E;refine⟨_,w.setRow g (cur.toList.take (n*1)++news++cur.toList.drop (n*1+news.length)).toArray,?_,⟨f,.inr ⟨g,cap,_,rfl,K,setRow_heap w g cur _ e _ U,d,B,?_,?_⟩⟩,⟨rfl,rfl,rfl,by simp[World.setRow],fun k _ N=>setRow_other w g k _ (fun e=>N (by simp[Value.ownBlock,e]))⟩⟩
   ·simp[Builtin.append_,run_underlying ht,run_underlying hu,sizeOf,typeInfo,hi,Builtin.lenOf,d,r,Addr.add_lit,E,y,c]
   ·simp only[List.size_toArray,Zl,List.length_take,List.length_drop,Array.length_toList];omega
   ·rw[C,←f];exact List.take_left
  ·have h:∀j u,xs[j]?=some u→w.cell? ((⟨g,0,none⟩:Addr).add j)=some u:=b.cells (g:=g) rfl;have o:=grown cap (by omega) (Value.ownBlock (.slice (some ⟨g,0,none⟩) n cap));refine⟨_,_,?_,o.1,o.2⟩;have q:¬(9223372036854775807<((n:Int)+(m:Int))):=by omega
   have p:¬(281474976710656<Builtin.nextslicecap (n+m) cap*i.bytes):=by
    have:=growslice_fits (need:=n+m) (old:=cap) (bytes:=i.bytes) (by omega) (by rw[A];omega);rw[A]at this ⊢;omega
   have R:=run_firstCells_some (P:=P) w.drew 1 n ⟨g,0,none⟩ n cap xs (by rw[b.1]) (by simpa using h);simp[Builtin.append_,run_underlying ht,run_underlying hu,sizeOf,typeInfo,zeroValue,hi,S,Builtin.lenOf,d,q,p,Question.forced,newRow,grownCap,c,r,R,y];rw[←Array.append_assoc,show xs.toArray++news.toArray=(xs++news).toArray by simp]
end
theorem Zft{u:TypeId}{base n:Nat}{xs:List UInt8}(s:ByteArray)(A:Zkm P t e 1)(hu:P.underlying u=some .string)(x y:Operand)(q:o.guard=none)(r:o.op=.call {callee:=.builtin .append,args:=#[x,y],argTypes:=#[t,u] })(C:a.eval x=v)(w:a.eval y=.string s)(c:OwnVec encB e wr base v xs)(j:Below base W wr)(b:base≤wr.heap.size)(D:n≤140737488355328)(hn:xs.length+s.size≤n)(h:∀v' w',OwnVec encB e w' base v' (xs++Zb9 s)→Below base W w'→wr.grownBy w' v.ownBlock→wpList P ops Q rest (a.put o.dst v') w'):wpList P ops Q (o::rest) a wr:=by
 obtain⟨ht,i,z,hi,f,p,m,l⟩:=A;obtain⟨v',w',E,k,d⟩:=Zmx (P:=P) wr t u o.type e i z base ht hu hi f p m l v xs.length (xs.map encB) c.own s (Zg hn D) b;refine wpList_plain q fun _ B=>?_
 unfold Oper.wp execOp;simp[r,resolve,invoke,builtin,C,w,E,Result.andThen,Oper.upon];refine B _ _ (h v' w' ⟨?_⟩ (j.grown d b (fun g d=>(c.own.lt g d).1)) d);rw[List.map_append,Zl,Zci];exact k
theorem Zgl(w:World)(e:TypeId)(s:ByteArray):Below w.heap.size w (Lib.bytesWorld w e s) :=
 ⟨rfl,rfl,rfl,by rw[Lib.bytesWorld_size];omega,fun k a=>Lib.bytesWorld_at_old w e s k a⟩
theorem Zkk(w:World)(e:TypeId)(s:ByteArray)(hn:s.size≤140737488355328):Zan (Lib.bytesWorld w e s).cell? (.slice (some ⟨w.heap.size,0,none⟩) s.size (grownCap w s.size 0 e)) (Zb9 s):=by
 refine⟨_,_,by rw[Zci],by rw[Zci];exact grownCap_ge _ _ _ _,grownCap_le_maxLen w _ _ e (Zbw hn),by rw[Zci];omega,(fun h=>by cases h),fun hp=>⟨w.heap.size,0,rfl,fun i hi=>?_⟩⟩;rw[Zci]at hi;rw[Nat.zero_add,Lib.bytesWorld_cell w e s i hi];simp only[encB,Zb9,List.getD,Array.getElem?_toList];rw[Array.getElem?_eq_getElem (by exact hi)];simp
theorem Zhi{src dst:TypeId}(s:ByteArray)(i:P.underlying src=some .string)(hd:P.underlying dst=some (.slice e))(g:P.underlying e=some (.int .u8))(b:o.guard=none)(y:Operand)(c:o.op=.convert src dst y)(d:a.eval y=.string s)(hn:s.size≤140737488355328)(h:∀v' w',Zan w'.cell? v' (Zb9 s)→Below wr.heap.size wr w'→wpList P ops Q rest (a.put o.dst v') w'):wpList P ops Q (o::rest) a wr:=by
 have j:=Lib.run_convert_string_bytes (P:=P) wr src dst e s i hd g;refine wpList_plain b fun _ f=>?_
 unfold Oper.wp execOp;simp[c,resolve,d,j,Result.andThen,Oper.upon];exact f _ _ (h _ _ (Zkk wr e s hn) (Zgl wr e s))
def bstr(xs:List UInt8):ByteArray:=⟨xs.toArray⟩
theorem Zmi(xs:List UInt8):(bstr xs).toList=xs:=by rw[ByteArray.toList_eq];rfl
theorem Zmj(xs:List UInt8):(bstr xs).size=xs.length:=by simp[bstr,ByteArray.size]
theorem Zyo(a b:List UInt8):((bstr a).toList==(bstr b).toList)=(a==b):=by rw[Zmi,Zmi]
theorem Zmt(xs:List UInt8):strOfNums (xs.map fun x=>(x.toNat:Int))=bstr xs:=by
 simp only[strOfNums,bstr,List.map_map]
 congr 2
 conv=>rhs;rw[←List.map_id xs]
 refine List.map_congr_left fun x _=>?_
 simp
theorem Zd3{w:World}{xs:List UInt8}(m:Zan w.cell? v xs):(convert 53 9 v).run prog w=.ok (.string (bstr xs)) w:=by
 obtain⟨A,c,rfl,n,q,p,k,l⟩:=m;cases A with
 |none =>
  have g:=k rfl;have:xs=[]:=List.eq_nil_of_length_eq_zero (by omega);subst this;exact run_convert_bytes_nil w 53 5 underlying53 underlying5 _ _ 9 underlying9
 |some a =>
  rcases Nat.eq_zero_or_pos xs.length with f|f
  ·have:xs=[]:=List.eq_nil_of_length_eq_zero f;subst this;rw[run_convert_bytes_string w 53 9 5 _ _ c underlying53 underlying5 underlying9,run_bytesToString w a ([]:List UInt8).length c [] (by simp[loadCells,loadCellsFrom])];rfl
  ·obtain⟨b,o,e,g⟩:=l f;obtain rfl:=Option.some.inj e
   have d:∀i,i<xs.length→w.cell? ⟨b,o+i,none⟩=some (.int .u8 ((xs.map fun x=>(x.toNat:Int)).getD i 0)):=by
    intro i hi;rw[g i hi];simp only[encB,List.getD,List.getElem?_map,Zp hi,Option.map_some,Option.getD_some]
   have j:=run_convert_bytes_arg (P:=prog) w 53 5 underlying53 underlying5 b o xs.length c (xs.map fun x=>(x.toNat:Int)) (List.length_map _) d 9 underlying9;rw[j];have e:=Zmt xs;rw[e]
theorem Zb7(va vb:Value)(a b:List UInt8)(w:World)(c:Zan w.cell? va a)(d:Zan w.cell? vb b) :
 Calls prog 139 #[va,vb] w fun e w'=>e=.returned (.bool (a==b))∧w=w':=by
 have ga:=Zd3 c;have gb:=Zd3 d;have f:=Zb (Zyo a b);clear c d;go_enter func139,ntmps139;go_wp2;go_ret;exact⟨Zao f.out,rfl⟩
def add2(x y:Nat):Nat:=(x+y)%4294967296
def add3(x y z:Nat):Nat:=(x+y+z)%4294967296
def rot(x s:Nat):Nat:=x*2^(32-s)%4294967296 ||| x/2^s
def Zcv(x y:Nat):Nat:=x ^^^ y
def W32(x:Nat):Prop:=x<4294967296
theorem Zzy:(4294967296:Nat)=2^32:=by decide
theorem add2_lt(x y:Nat):W32 (add2 x y):=Nat.mod_lt _ (by decide)
theorem add3_lt(x y z:Nat):W32 (add3 x y z):=Nat.mod_lt _ (by decide)
theorem rot_lt{x s:Nat}(h:W32 x):W32 (rot x s):=by
 unfold W32 rot at *;rw[Zzy]at *;refine Nat.or_lt_two_pow (Nat.mod_lt _ (by decide)) (Nat.lt_of_le_of_lt (Nat.div_le_self _ _) h)
theorem Zcu{x y:Nat}(h:W32 x)(k:W32 y):W32 (Zcv x y):=by
 unfold W32 Zcv at *;rw[Zzy]at *;exact Nat.xor_lt_two_pow h k
theorem bits_xor(k:IntKind)(j:Nat)(i:j≤k.bits)(g:∀n:Int,0≤n→n<2^j→k.wrap n=n)(a b:Nat)(e:a<2^j)(f:b<2^j) :
 bits .xor k a b=((a ^^^ b:Nat):Int):=by
 have hp:2^j≤2^k.bits:=Nat.pow_le_pow_right (by decide) i;have c:a%2^k.bits=a:=Nat.mod_eq_of_lt (Nat.lt_of_lt_of_le e hp);have d:b%2^k.bits=b:=Nat.mod_eq_of_lt (Nat.lt_of_lt_of_le f hp);have cast:∀n:Nat,n<2^j→((n:Nat):Int)<2^j:=fun n h=>by exact_mod_cast h
 simp only[bits,BitVec.ofInt_natCast,BitVec.toNat_xor,BitVec.toNat_ofNat,c,d];exact g _ (Int.natCast_nonneg _) (cast _ (Nat.xor_lt_two_pow e f))
theorem Zq9(n:Int)(b:0≤n)(a:n<2^32):IntKind.u32.wrap n=n:=by rw[IntKind.wrap_u32];omega
theorem Zkx(n:Int)(b:0≤n)(a:n<2^62):IntKind.i64.wrap n=n:=by rw[IntKind.wrap_i64];omega
theorem Zf5{a:Nat}(c:W32 a)(d:W32 b):bits .xor .u32 a b=(Zcv a b:Int):=by
 unfold W32 at *;rw[Zzy]at *;exact bits_xor .u32 32 (by decide) Zq9 a b c d
theorem Zob{x s:Nat}(a:W32 x)(b:s≤32):bits .or .u32 (IntKind.u32.wrap ((x:Int)*2^(32-s))) ((x:Int)/2^s)=(rot x s:Int):=by
 unfold W32 at a
 have e1:IntKind.u32.wrap ((x:Int)*2^(32-s))=((x*2^(32-s)%4294967296:Nat):Int):=by
  have e:(x:Int)*2^(32-s)=((x*2^(32-s):Nat):Int):=by push_cast;rfl
  rw[IntKind.wrap_u32,e];omega
 have e2:(x:Int)/2^s=((x/2^s:Nat):Int):=by push_cast;rfl
 rw[e1,e2];unfold rot;rw[Zzy]at *;exact(bits_nat .u32 32 (by decide) Zq9 _ _ (Nat.mod_lt _ (by decide)) (Nat.lt_of_le_of_lt (Nat.div_le_self _ _) a)).2
theorem Zsy{x y z:Nat}:IntKind.u32.wrap ((x:Int)+IntKind.u32.wrap ((y:Int)+(z:Int)))=(add3 x y z:Nat):=by
 rw[IntKind.wrap_u32,IntKind.wrap_u32];unfold add3;omega
theorem Zsz{x y:Nat}:IntKind.u32.wrap ((x:Int)+(y:Int))=(add2 x y:Nat):=by
 rw[IntKind.wrap_u32];unfold add2;omega
def Zc5:List Nat:=[1779033703,3144134277,1013904242,2773480762,1359893119,2600822924,528734635,1541459225]
def Zfp:List (List Nat):=[[0,1,2,3,4,5,6,7,8,9,10,11,12,13,14,15],[14,10,4,8,9,15,13,6,1,12,0,2,11,7,5,3],[11,8,12,0,5,2,15,13,10,14,3,6,7,1,9,4],[7,9,3,1,13,12,11,14,2,6,5,10,4,0,15,8],[9,0,5,7,2,4,10,15,14,1,11,12,6,8,3,13],[2,12,6,10,0,11,8,3,4,13,7,5,15,14,1,9],[12,5,1,15,14,13,4,10,0,7,6,3,9,2,8,11],[13,11,7,14,12,1,3,9,5,0,15,4,8,6,2,10],[6,15,14,9,11,3,0,8,12,2,13,7,1,4,10,5],[10,2,8,4,7,6,1,5,15,11,9,14,3,12,13,0]]
def ord(r i:Nat):Nat:=(Zfp.getD r []).getD i 0
def lane(i:Nat):Nat×Nat×Nat×Nat:=if i<4 then(i,i+4,i+8,i+12)else(i-4,4+(i-4+1)%4,8+(i-4+2)%4,12+(i-4+3)%4)
def at0(v:List Nat)(i:Nat):Nat:=v.getD i 0
def mixA(v:List Nat)(a b x:Nat):List Nat:=v.set a (add3 (at0 v a) (at0 v b) x)
def mixC(v:List Nat)(c d:Nat):List Nat:=v.set c (add2 (at0 v c) (at0 v d))
def mixD(v:List Nat)(d a s:Nat):List Nat:=v.set d (rot (Zcv (at0 v d) (at0 v a)) s)
def mix(v:List Nat)(a b c d x y:Nat):List Nat:=mixD (mixC (mixD (mixA (mixD (mixC (mixD (mixA v a b x) d a 16) c d) b c 12) a b y) d a 8) c d) b c 7
def Zr0(m:List Nat)(r:Nat)(v:List Nat)(i:Nat):List Nat:=mix v (lane i).1 (lane i).2.1 (lane i).2.2.1 (lane i).2.2.2 (at0 m (ord r (2*i))) (at0 m (ord r (2*i+1)))
def lanesTo(m:List Nat)(r:Nat)(v:List Nat)(k:Nat):List Nat:=(List.range k).foldl (Zr0 m r) v
def roundsTo(m:List Nat)(v:List Nat)(k:Nat):List Nat:=(List.range k).foldl (fun v r=>lanesTo m r v 8) v
theorem Zj7(m:List Nat)(r:Nat)(v:List Nat)(k:Nat):lanesTo m r v (k+1)=Zr0 m r (lanesTo m r v k) k:=by simp[lanesTo,List.range_succ,List.foldl_append]
theorem Zil(m:List Nat)(v:List Nat)(k:Nat):roundsTo m v (k+1)=lanesTo m k (roundsTo m v k) 8:=by simp[roundsTo,List.range_succ,List.foldl_append]
def Ws(n:Nat)(v:List Nat):Prop:=v.length=n∧∀i,W32 (at0 v i)
theorem Ws.set{n:Nat}{v:List Nat}(h:Ws n v){x:Nat}(a:W32 x):Ws n (v.set i x):=by
 refine⟨by rw[List.length_set];exact h.1,fun j=>?_⟩;have b:=h.2 j;unfold at0 at *;rw[List.getD_eq_getElem?_getD]at *;rw[List.getElem?_set];split
 ·split
  ·exact a
  ·show W32 0;unfold W32;decide
 ·exact b
theorem Ws.mixA{n:Nat}{v:List Nat}(h:Ws n v)(a b x:Nat):Ws n (mixA v a b x):=h.set (add3_lt ..)
theorem Ws.mixC{n:Nat}{v:List Nat}(h:Ws n v)(c d:Nat):Ws n (mixC v c d):=h.set (add2_lt ..)
theorem Ws.mixD{n:Nat}{v:List Nat}(h:Ws n v)(d a s:Nat):Ws n (mixD v d a s):=h.set (rot_lt (Zcu (h.2 d) (h.2 a)))
theorem Ws.mix{n:Nat}{v:List Nat}(h:Ws n v)(a b c d x y:Nat):Ws n (mix v a b c d x y):=(((((((h.mixA ..).mixD ..).mixC ..).mixD ..).mixA ..).mixD ..).mixC ..).mixD ..
theorem Ws.lanesTo{n:Nat}{v:List Nat}(h:Ws n v)(m:List Nat)(r k:Nat):Ws n (lanesTo m r v k):=by
 induction k with
 |zero=>exact h
 |succ k ih=>rw[Zj7];exact ih.mix ..
theorem Ws.roundsTo{n:Nat}{v:List Nat}(h:Ws n v)(m:List Nat)(k:Nat):Ws n (roundsTo m v k):=by
 induction k with
 |zero=>exact h
 |succ k ih=>rw[Zil];exact ih.lanesTo ..
def Zk0(b:List UInt8)(j:Nat):Nat:=(b.getD (4*j) 0).toNat+256*(b.getD (4*j+1) 0).toNat+65536*(b.getD (4*j+2) 0).toNat+16777216*(b.getD (4*j+3) 0).toNat
def words(b:List UInt8):List Nat:=(List.range 16).map (Zk0 b)
def Zhy(s:List Nat)(many:Nat)(last:Bool):List Nat :=
 let v:=(s++Zc5).set 12 (Zcv (at0 (s++Zc5) 12) many)
 if last then v.set 14 (Zcv (at0 v 14) 4294967295)else v
def Zgx(s v:List Nat)(i:Nat):Nat:=Zcv (Zcv (at0 s i) (at0 v i)) (at0 v (i+8))
def Zf6(s:List Nat)(block:List UInt8)(many:Nat)(last:Bool):List Nat:=(List.range 8).map (Zgx s (roundsTo (words block) (Zhy s many last) 10))
def init8:List Nat:=Zc5.set 0 (Zcv (at0 Zc5 0) 16842784)
def Zep(b:List UInt8)(k:Nat):List Nat:=(List.range k).foldl (fun s i=>Zf6 s ((b.drop (64*i)).take 64) (64*i+64) false) init8
theorem Zi1(b:List UInt8)(k:Nat):Zep b (k+1)=Zf6 (Zep b k) ((b.drop (64*k)).take 64) (64*k+64) false:=by simp[Zep,List.range_succ,List.foldl_append]
def Zd9(s:List Nat)(i:Nat):UInt8:=UInt8.ofNat (at0 s (i/4)/2^(8*(i%4))%256)
def ahead(n:Nat):Nat:=(n-1)/64
def sumB(b:List UInt8):List UInt8:=(List.range 32).map (Zd9 (Zf6 (Zep b (ahead b.length)) (b.drop (64*ahead b.length)) b.length true))
theorem Zs3(b:List UInt8):(sumB b).length=32:=by simp[sumB]
section
variable {P:Program} {ops:Array Oper} {Q:Exit→Act→World→Prop} {S:World→Prop}
def Zji(ops:Array Oper)(kOk:Array Bool→Bool):List (Nat×Bool)→Array Bool→Bool
 |[],listed=>kOk listed
 |(i,q)::rest,listed=>(if q then Region.free .any ops listed i&&(Region.ready .any ops listed).contains i else Region.ready .any ops listed==[i])&&Zji ops kOk rest (listed.setIfInBounds i true)
def Zfo(P:Program)(ops:Array Oper)(Q:Exit→Act→World→Prop)(S:World→Prop)(K:Act→World→Prop):List (Nat×Bool)→Act→World→Prop
 |[],a,w=>K a w
 |(i,true)::rest,a,w=>∃o v,ops[i]?=some o∧YieldsIf P ops S o v a∧Zfo P ops Q S K rest (a.put o.dst v) w
 |(i,false)::rest,a,w=>wpOp P ops Q i (fun a' w'=>S w'∧(S w'→Zfo P ops Q S K rest a' w')) a w
theorem Zek(f:Region.noSelect ops=true)(g:∀c a d v w,Q (.panic c) (Act.put a d v) w→Q (.panic c) a w){kOk:Array Bool→Bool}{K:Act→World→Prop}{m:Nat}(e:∀listed a w,kOk listed=true→S w→K a w→wpAnyH P .any ops Q S m listed a w) :
 ∀(π:List (Nat×Bool)) (listed:Array Bool) (a:Act) (w:World),Zji ops kOk π listed=true→S w→Zfo P ops Q S K π a w→wpAnyH P .any ops Q S (π.length+m) listed a w
 |[],listed,a,w,hp,hS,h=>by
  rw[List.length_nil,Nat.zero_add]
  exact e listed a w hp hS h
 |(i,true)::rest,listed,a,w,hp,hS,h=>by
  obtain⟨o,v,k,l,p⟩:=h
  simp only[Zji,if_true,Bool.and_eq_true]at hp
  rw[Zu,Nat.add_right_comm]
  exact wpAnyH_take k f hp.1.1 hp.1.2 (fun c a w=>g c a o.dst v w) l hS (Zek f g e rest _ _ w hp.2 hS p)
 |(i,false)::rest,listed,a,w,hp,hS,h=>by
  simp only[Zji,Bool.false_eq_true,if_false,Bool.and_eq_true,beq_iff_eq]at hp
  rw[Zu,Nat.add_right_comm]
  refine wpAnyH_all hp.1 (by simp) (fun j n=>?_)
  rw[Zv n]
  exact wpOp_mono (fun a' w' b=>⟨b.1,Zek f g e rest _ a' w' hp.2 b.1 (b.2 b.1)⟩) h
inductive PT where
 |done (l:List (Nat×Bool))
 |alt (l:List (Nat×Bool)) (i j:Nat) (p q:PT)
def PT.fuel:PT→Nat
 |.done l=>l.length
 |.alt l _ _ p _=>l.length+(p.fuel+1)
def PT.ok(ops:Array Oper):PT→Array Bool→Bool
 |.done l,listed=>Zji ops (fun x=>(Region.ready .any ops x).isEmpty) l listed
 |.alt l i j p q,listed=>Zji ops (fun x=>Region.ready .any ops x==[i,j]&&p.ok ops (x.setIfInBounds i true)&&q.ok ops (x.setIfInBounds j true)&&p.fuel==q.fuel) l listed
def PT.wp(P:Program)(ops:Array Oper)(Q:Exit→Act→World→Prop)(S:World→Prop):PT→Act→World→Prop
 |.done l,a,w=>Zfo P ops Q S (Q .normal) l a w
 |.alt l i j p q,a,w=>Zfo P ops Q S (fun a w=>wpOp P ops Q i (fun a' w'=>S w'∧(S w'→p.wp P ops Q S a' w')) a w∧wpOp P ops Q j (fun a' w'=>S w'∧(S w'→q.wp P ops Q S a' w')) a w) l a w
theorem PT.sound(f:Region.noSelect ops=true)(n:∀c a d v w,Q (.panic c) (Act.put a d v) w→Q (.panic c) a w) :
 ∀(t:PT) (listed:Array Bool) (a:Act) (w:World),t.ok ops listed=true→S w→t.wp P ops Q S a w→wpAnyH P .any ops Q S t.fuel listed a w
 |.done l,listed,a,w,hp,g,h=>by
  have:=Zek (m:=0) f n (kOk:=fun x=>(Region.ready .any ops x).isEmpty) (K:=Q .normal) (fun x a w e _ b=>by
   have z:Region.ready .any ops x=[]:=by simpa using e
   exact wpAnyH_done z b 0) l listed a w hp g h
  exact this
 |.alt l i j p q,listed,a,w,hp,g,h=>by
  refine Zek (m:=p.fuel+1) f n (fun x a w e g b=>?_) l listed a w hp g h
  simp only[Bool.and_eq_true,beq_iff_eq]at e
  obtain⟨⟨⟨r,y⟩,u⟩,s⟩:=e
  refine wpAnyH_all r (by simp) (fun k o=>?_)
  simp only[List.mem_cons,List.not_mem_nil,or_false]at o
  rcases o with rfl|rfl
  ·exact wpOp_mono (fun a' w' b=>⟨b.1,PT.sound f n p _ a' w' y b.1 (b.2 b.1)⟩) b.1
  ·exact wpOp_mono (fun a' w' b=>⟨b.1,s▸PT.sound f n q _ a' w' u b.1 (b.2 b.1)⟩) b.2
theorem Zmp{id:Nat}{l:List Oper}{w:World}(S:World→Prop)(t:PT)(f:P.follows .mixedOrders=true)(g:Region.noSelect l.toArray=true)(j:∀c a d v w,Q (.panic c) (Act.put a d v) w→Q (.panic c) a w)(b:t.fuel=l.length)(i:t.ok l.toArray (Array.replicate l.length false)=true)(e:S w.drew)(h:∀W,S W→t.wp P l.toArray Q S a W):(Code.region id l.toArray true).wp P Q a w:=by
 refine wp_region_held f (S:=S) ?_;have:=PT.sound (P:=P) (S:=S) g j t (Array.replicate l.length false) a w.drew i e (h _ e);rw[b]at this;simpa using this
theorem Zhw{w:World}(h:K a w):Zfo P ops Q S K [] a w:=h
theorem Zdi{rest:List (Nat×Bool)}{w:World}(b:ops[i]?=some o)(c:Region.wanted o (yielded ops a.tmps)=true)(h:∃v,(∀w,S w→(execOp a.eval o).run P w=.ok (.value v) w)∧Zfo P ops Q S K rest (a.put o.dst v) w):Zfo P ops Q S K ((i,true)::rest) a w :=
 let ⟨v,hv,h⟩:=h
 ⟨o,v,b,.inl ⟨c,hv⟩,h⟩
theorem Zf2{R:Act→World→Prop}{w:World}(c:ops[i]?=some o)(d:Region.wanted o (yielded ops a.tmps)=true)(h:∀K:Act→World→Prop,Shut (∀a' w',S w'→(S w'→R a' w')→K a' w')→Oper.wp P o a w K Q):wpOp P ops Q i (fun a' w'=>S w'∧(S w'→R a' w')) a w:=by
 unfold wpOp;simp only[c,d,if_true];exact .inl (h _ (fun a' w' b e=>⟨b,e⟩))
theorem Zdb{rest:List (Nat×Bool)}{w:World}(b:ops[i]?=some o)(c:Region.wanted o (yielded ops a.tmps)=true)(h:∀K':Act→World→Prop,Shut (∀a' w',S w'→(S w'→Zfo P ops Q S K rest a' w')→K' a' w')→Oper.wp P o a w K' Q):Zfo P ops Q S K ((i,false)::rest) a w:=Zf2 b c h
end
def bt(b:List UInt8)(k i:Nat):Nat:=if i<k then(b.getD i 0).toNat else 0
theorem Zpd(b:List UInt8)(k i:Nat):((b.take k).getD i 0).toNat=bt b k i:=by
 unfold bt;rw[List.getD_eq_getElem?_getD,List.getElem?_take];split
 ·rw[List.getD_eq_getElem?_getD]
 ·rfl
theorem Zc0{b:List UInt8}(h:i≠k):bt b (k+1) i=bt b k i:=by
 unfold bt
 by_cases a:i<k
 ·rw[if_pos a,if_pos (by omega)]
 ·rw[if_neg a,if_neg (by omega)]
theorem bt_new{b:List UInt8}(h:k<b.length):bt b (k+1) k=b[k].toNat:=by
 unfold bt;rw[if_pos (by omega)];simp[h]
theorem Ze6{b:List UInt8}(h:k≤i):bt b k i=0:=by unfold bt;rw[if_neg (by omega)]
theorem bt_lt(b:List UInt8)(k i:Nat):bt b k i<256:=by
 unfold bt;split
 ·exact UInt8.toNat_lt _
 ·decide
theorem Zev(b:List UInt8)(k j:Nat):Zk0 (b.take k) j=bt b k (4*j)+256*bt b k (4*j+1)+65536*bt b k (4*j+2)+16777216*bt b k (4*j+3):=by
 unfold Zk0;rw[Zpd,Zpd,Zpd,Zpd]
theorem Zfu(b:List UInt8):(words b).length=16:=by simp[words]
theorem Zmn{b:List UInt8}(a:j<16):at0 (words b) j=Zk0 b j:=by
 unfold at0 words;rw[List.getD_eq_getElem?_getD,List.getElem?_map,List.getElem?_range a];rfl
theorem Zv1(b:List UInt8)(j:Nat):Zk0 b j<4294967296:=by
 unfold Zk0;have a:=UInt8.toNat_lt (b.getD (4*j) 0);have d:=UInt8.toNat_lt (b.getD (4*j+1) 0);have c:=UInt8.toNat_lt (b.getD (4*j+2) 0);have e:=UInt8.toNat_lt (b.getD (4*j+3) 0);omega
theorem Ws.words(b:List UInt8):Ws 16 (words b):=by
 refine⟨Zfu b,fun i=>?_⟩
 by_cases hi:i<16
 ·rw[Zmn hi];exact Zv1 b i
 ·unfold at0;rw[List.getD_eq_getElem?_getD,List.getElem?_eq_none (by rw[Zfu];omega)];show(0:Nat)<_;decide
theorem Zt8(b:List UInt8)(k:Nat)(c:k<64):at0 (words (b.take k)) (k/4)<2^(8*(k%4)):=by
 rw[Zmn (by omega),Zev];have a:=bt_lt b k (4*(k/4));have d:=bt_lt b k (4*(k/4)+1);have e:=bt_lt b k (4*(k/4)+2);rw[Ze6 (i:=4*(k/4)+3) (by omega)];have ht:k%4=0∨k%4=1∨k%4=2∨k%4=3:=by omega
 rcases ht with ht|ht|ht|ht
 ·rw[Ze6 (i:=4*(k/4)) (by omega),Ze6 (i:=4*(k/4)+1) (by omega),Ze6 (i:=4*(k/4)+2) (by omega),ht];decide
 ·rw[Ze6 (i:=4*(k/4)+1) (by omega),Ze6 (i:=4*(k/4)+2) (by omega),ht];simp;omega
 ·rw[Ze6 (i:=4*(k/4)+2) (by omega),ht];simp;omega
 ·rw[ht];simp;omega
theorem Zvz(b:List UInt8)(k:Nat)(c:k<64)(a:k<b.length):at0 (words (b.take k)) (k/4)+b[k].toNat*2^(8*(k%4))=Zk0 (b.take (k+1)) (k/4):=by
 rw[Zmn (by omega),Zev,Zev];have hn:=bt_new a;have ht:k%4=0∨k%4=1∨k%4=2∨k%4=3:=by omega
 rcases ht with ht|ht|ht|ht
 ·have e:4*(k/4)=k:=by omega
  rw[ht,Zc0 (i:=4*(k/4)+1) (by omega),Zc0 (i:=4*(k/4)+2) (by omega),Zc0 (i:=4*(k/4)+3) (by omega),Ze6 (k:=k) (i:=4*(k/4)) (by omega)];rw[e,hn];omega
 ·have e:4*(k/4)+1=k:=by omega
  rw[ht,Zc0 (i:=4*(k/4)) (by omega),Zc0 (i:=4*(k/4)+2) (by omega),Zc0 (i:=4*(k/4)+3) (by omega),Ze6 (k:=k) (i:=4*(k/4)+1) (by omega)];rw[e,hn];omega
 ·have e:4*(k/4)+2=k:=by omega
  rw[ht,Zc0 (i:=4*(k/4)) (by omega),Zc0 (i:=4*(k/4)+1) (by omega),Zc0 (i:=4*(k/4)+3) (by omega),Ze6 (k:=k) (i:=4*(k/4)+2) (by omega)];rw[e,hn];omega
 ·have e:4*(k/4)+3=k:=by omega
  rw[ht,Zc0 (i:=4*(k/4)) (by omega),Zc0 (i:=4*(k/4)+1) (by omega),Zc0 (i:=4*(k/4)+2) (by omega),Ze6 (k:=k) (i:=4*(k/4)+3) (by omega)];rw[e,hn];omega
theorem Zt7(b:List UInt8)(k:Nat)(c:k<64)(d:k<b.length):(words (b.take k)).set (k/4) (at0 (words (b.take k)) (k/4)+b[k].toNat*2^(8*(k%4)))=words (b.take (k+1)):=by
 rw[Zvz b k c d];refine List.ext_getElem (by simp[Zfu]) (fun j f a=>?_);rw[List.getElem_set];have g:j<16:=by rw[Zfu]at a;exact a
 split
 ·rename_i e;subst e;simp[words]
 ·rename_i e;simp only[words,List.getElem_map,List.getElem_range];rw[Zev,Zev,Zc0 (by omega),Zc0 (by omega),Zc0 (by omega),Zc0 (by omega)]
theorem Zvy:words []=List.replicate 16 0:=by decide
theorem Zre(m c s:Nat)(b:s=0∨s=8∨s=16∨s=24)(a:m<2^s)(d:c<256):bits .or .u32 m (IntKind.u32.wrap ((c:Int)*2^s))=((m+c*2^s:Nat):Int):=by
 rcases b with rfl|rfl|rfl|rfl
 ·have:m=0:=by simpa using a
  subst this;rw[IntKind.wrap_u32];have:=(bits_nat .u32 32 (by decide) Zq9 0 c (by decide) (by omega)).2;simp at this⊢;rw[show((c:Int)%4294967296)=c by omega,this]
 ·rw[IntKind.wrap_u32,show((c:Int)*2^8)%4294967296=c*256 by omega,u32_or8 _ _ (by omega) (by omega) (by omega) (by omega) (by omega)];omega
 ·rw[IntKind.wrap_u32,show((c:Int)*2^16)%4294967296=c*65536 by omega,u32_or16 _ _ (by omega) (by omega) (by omega) (by omega) (by omega)];omega
 ·rw[IntKind.wrap_u32,show((c:Int)*2^24)%4294967296=c*16777216 by omega,u32_or24 _ _ (by omega) (by omega) (by omega) (by omega) (by omega)];omega
theorem Zwx(ts:List TypeId)(h:(ts.all fun t=>prog.readableRec t&&decide (t<prog.types.size))=true):∀t∈ts,prog.readableRec t=true∧t<prog.types.size:=by
 intro t ht;have:=List.all_eq_true.1 h t ht;simpa using this
theorem laidOut:laidOutB prog=true:=by kernel_rfl
theorem own_:ownKnob prog.godebug=none:=by kernel_rfl
theorem Zrs:Zgi prog 3 (fun _ cs (n:Int)=>cs=[.int .i64 n]∧(Lit.int .i64 n).wf=true):=Zqb underlying3
theorem opens_s:Zgi prog 9 (fun _ cs (s:ByteArray)=>cs=[encS s]∧s.size≤reachBytes):=Zw8 underlying9
theorem OwnVec.made(enc:α→Value)(e:TypeId)(w:World)(base:Nat)(h:base≤w.heap.size):OwnVec enc e (w.alloc (.cells #[] e)) base (.slice (some ⟨w.heap.size,0,none⟩) 0 0) [] :=
 ⟨World.ownsRow_made w #[] 0 h (Zf _) rfl⟩
theorem RVec.isNil{n:Nat}(a:RVec enc bs h (.slice none n c) xs):xs=[]∧n=0∧c=0:=by
 obtain⟨A',c',e,d,_,_,b,_⟩:=a;injection e with e1 e2 e3;have f:=b e1.symm;have:xs.length=0:=by omega
 exact⟨List.eq_nil_of_length_eq_zero this,by omega,by omega⟩
theorem Zcj(v:Value)(xs:List UInt8)(w:World)(d:Zan w.cell? v xs) :
 Calls prog 38 #[v] w fun e w'=>∃v',e=.returned v'∧Below w.heap.size w w'∧OwnB w' w.heap.size v' xs:=by
 have i:xs.length≤140737488355328:=by obtain⟨A,c,_,_,_,h,_⟩:=d;omega
 have b:=Zb i;obtain⟨A,c,rfl,_⟩:=id d;have e1:=@Lib.run_eql_slice_nil prog;clear i;cases A with
 |none =>
  obtain⟨rfl,k,rfl⟩:=d.isNil;go_enter func38,ntmps38;go_wp2;go_ret;exact⟨_,rfl,Zm _ _,OwnVec.nil _ _ _ _⟩
 |some a =>
  have g:=d.mono (Zaa ((Zm _ _).alloc (Za _) (.cells #[] 5)));clear d;go_enter func38,ntmps38;go_wp2_with (at_builtin;refine Za6 (n:=140737488355328) Za7 Zb0 _ _ rfl rfl rfl (OwnVec.made _ _ _ _ (Za _)) ((Zm _ _).alloc (Za _) _) (Zar _ (Za _)) rfl g (Za _) (by simpa using b.out) (by simpa using b.out) ?_);intro v' w1 j f _;go_wp2;go_ret;exact⟨v',rfl,f,by simpa using j⟩
structure Slot where
 author:Int
 round:Int
 digest:List UInt8
def RSlot(h:View)(cs:List Value)(s:Slot):Prop:=∃d,cs=[.int .i64 s.author,.int .i64 s.round,d]∧Zan h d s.digest
structure Bat where
 author:Int
 number:Int
 txs:List ByteArray
theorem Zz5{H:Type}{enc:TypeId×Value→H}{k:IntKind}{base:Nat}{d:DataW H}{p:List MemPlace}(ht:P.underlying t=some (.int k))(a:Value.okWide P W .any base t v)(h:DataW.Trod enc P W 0 (fun _=>true) true t v d p)(c:∀n∈DataW.weights P t d,n≤reachBytes):∃n,v=.int k n∧(Lit.int k n).wf=true:=by
 obtain⟨fuel,h⟩:=h;obtain⟨n,e,b⟩:=Zqb ht H enc W fuel _ _ h c;obtain⟨m,rfl⟩:=okWide_int ht a;obtain rfl:m=n:=by simpa[Value.cells]using e
 exact⟨m,rfl,b⟩
namespace Ln
def Bld(w:World)(b:Nat)(l:List UInt8):Prop:=∃p v,Blk w b 55 #[p,v]∧(p=.pointer none∨p=.pointer (some ⟨b,0,none⟩))∧OwnVec encB 5 w (b+1) v l
theorem Bld.lt{w:World}{l:List UInt8}(h:Bld w b l):b<w.heap.size:=by
 obtain⟨p,v,a,_⟩:=h;exact a.lt
theorem Bld.kept{w:World}{l:List UInt8}(h:Bld w b l)(a:Below w.heap.size w w'):Bld w' b l:=by
 obtain⟨p,v,c,d,e⟩:=h;exact⟨p,v,c.kept a,d,e.kept a⟩
theorem Bld.new(w:World):Bld (w.alloc (.cells #[.pointer none,.slice none 0 0] 55)) w.heap.size [] :=
 ⟨_,_,Blk.new w _ _,.inl rfl,OwnVec.nil _ _ _ _⟩
theorem Zgz:∃j,prog.info? 55=some j∧j.size=2:=Option.map_eq_some_iff.1 (show(prog.info? 55).map (·.size)=some 2 by kernel_rfl)
theorem Zmw(w:World)(b:Nat)(a:w.shape? b=some (55,2)):(convert 52 131 (.pointer (some ⟨b,0,none⟩))).run prog w=.ok (.pointer (some ⟨b,0,none⟩)) w:=by
 obtain⟨j,d,c⟩:=Zgz;exact Lib.run_to_unsafe w ⟨b,0,none⟩ underlying52 underlying131 d (by rw[c];decide) a (Nat.zero_lt_succ 1)
theorem Zkd(w:World)(b:Nat)(a:w.shape? b=some (55,2)):(convert 131 52 (.pointer (some ⟨b,0,none⟩))).run prog w=.ok (.pointer (some ⟨b,0,none⟩)) w:=by
 obtain⟨j,c,d⟩:=Zgz;exact Lib.run_from_unsafe w ⟨b,0,none⟩ underlying131 underlying52 c a (by kernel_rfl)
theorem Zp6(w:World)(b:Nat):(binOp .neq 52 (.pointer (some ⟨b,0,none⟩)) (.pointer (some ⟨b,0,none⟩))).run prog w=.ok (.bool false) w:=by
 obtain⟨j,a,c⟩:=Zgz;exact Lib.run_neq_ptr_same w _ underlying52 a
theorem Zyq{w:World}(h:Blk w b t cs):w.shape? b=some (t,cs.size):=by
 unfold Blk at h;simp[World.shape?,h]
theorem Zgg{w:World}(h:Blk w b t cs)(i:Nat)(u:Value):Blk (w.setCell ⟨b,i,none⟩ u) b t (cs.setIfInBounds i u)∧w.grownBy (w.setCell ⟨b,i,none⟩ u) (some b):=by
 refine⟨?_,rfl,rfl,rfl,by simp[World.setCell],fun k _ a=>Below.heap_setCell _ _ _ _ (fun e=>a (by simp[e]))⟩;unfold Blk at h⊢;simp[World.setCell,Array.getElem?_modify,h]
theorem Ziw(b:Nat)(l:List UInt8)(w:World)(h:Bld w b l) :
 Calls prog 28 #[.pointer (some ⟨b,0,none⟩)] w fun e w'=>e=.returned (.tuple #[])∧Bld w' b l∧w.grownBy w' (some b):=by
 obtain⟨p,v,a,j,f⟩:=h;have c:=Zyq a;have d:=a.cell 0;have i:=a.frozen 0;simp at d;have g:=a.lt
 rcases j with rfl|rfl
 ·go_enter func28,ntmps28;go_wp2
  rw[Zmw w b c];simp only[Result.andThen];rw[Oper.upon_value];go_wp2;rw[run_callFunc_extern func50 (by kernel_rfl) (by kernel_rfl) (by kernel_rfl) (e:=Extern.AbiNoEscape.same) (by kernel_rfl)];rw[Lib.run_noEscape];simp only[Result.andThen];rw[Oper.upon_value];go_wp2;rw[Zkd w b c];simp only[Result.andThen];rw[Oper.upon_value];go_wp2;go_end0;obtain⟨k1,k2⟩:=Zgg a 0 (.pointer (some ⟨b,0,none⟩));exact⟨rfl,⟨_,v,k1,.inr rfl,f.grown k2 (by omega)⟩,k2⟩
 ·go_enter func28,ntmps28;go_wp2
  rw[Zp6];simp only[Result.andThen];rw[Oper.upon_value];go_wp2;go_end0;exact⟨rfl,⟨_,v,a,.inr rfl,f⟩,Zff _ _⟩
theorem Za1{w:World}{n:Nat}(c:o.guard=none)(f:o.op=.store t x y)(d:a.eval x=.pointer (some ⟨g,off,none⟩))(i:a.eval y=v)(hi:(P.info? t).map (·.size)=some n)(hn:v.cells.size=n)(m:Blk w g te cs)(b:off+n≤cs.size)(e:(v.cells.toList.all fun u=>u.oneCell')=true)(h:∀w',Blk w' g te (cs.toList.take off++(v.cells.toList++cs.toList.drop (off+n))).toArray→w.grownBy w' (some g)→wpList P ops Q rest (a.put o.dst undef) w'):wpList P ops Q (o::rest) a w :=
 wpList_plain c fun _ j=>Zau f d i hi hn m b e fun w' l k=>j _ _ (h w' l k)
theorem Zq4{w w1 w2 w3:World}(f:b<w.heap.size)(d:w.grownBy w1 (some b))(g:Below (b+1) w1 w2)(i:w2.grownBy w3 (some b)):Below b w w3:=by
 have a:=Zab (Zm b w) (by omega) d (by intro k e;injection e;omega);have c:Below b w w2:=a.trans (g.mono (by omega));exact Zab c (by have:=c.size;omega) i (by intro k e;injection e;omega)
def Others(b:Nat)(w w':World):Prop:=∀g t cs,Blk w g t cs→g≠b→t≠5→Blk w' g t cs
theorem Others.trans{w w1 w2:World}(h:Others b w w1)(k:Others b w1 w2):Others b w w2:=fun g t cs c a ht=>k g t cs (h g t cs c a ht) a ht
theorem Others.below{w w1:World}(h:Below w.heap.size w w1):Others b w w1:=fun g t cs a _ _=>a.kept h
theorem Zw6{w:World}{B:Nat}{l:List UInt8}(h:OwnVec encB e w B v l)(b:Blk w g t cs)(ht:t≠e):v.ownBlock≠some g:=by
 intro e1
 rcases h.own.2 with ⟨rfl,_⟩|⟨g',cap,cur,rfl,_,a,_⟩
 ·cases e1
 ·injection e1 with e1;subst e1;unfold Blk at b;rw[b]at a;injection a with a;injection a with h1 h2;exact ht h2
theorem Zqa{w w1 w2 w3:World}{B:Nat}{l:List UInt8}(i:e=5)(c:w.grownBy w1 (some b))(d:OwnVec encB e w1 B v l)(j:w1.grownBy w2 v.ownBlock)(f:w2.grownBy w3 (some b)):Others b w w3:=by
 subst i;intro g t cs k a ht;have k1:=k.grown c (by simpa using a);have k2:=k1.grown j (fun e=>Zw6 d k1 ht e.symm);exact k2.grown f (by simpa using a)
theorem Zh7(b:Nat)(l:List UInt8)(c:UInt8)(w:World)(h:Bld w b l)(s:l.length+1≤140737488355328)(z:Int)(r:z=c.toNat) :
 Calls prog 30 #[.pointer (some ⟨b,0,none⟩),.int .u8 z] w fun e w'=>e=.returned .nilIface∧Bld w' b (l++[c])∧Below b w w'∧Others b w w':=by
 subst r;have i:=h.lt;go_enter func30,ntmps30;go_wp2_with fail;refine(Ziw b l _ h).mono ?_;rintro e w1 ⟨rfl,⟨p,v,j,t,m⟩,d⟩;have c1:=j.cell 1;simp at c1;have g:=j.lt;go_wp2_with (at_builtin;refine Zdj (n:=140737488355328) c Za7 Zb0 _ _ rfl rfl rfl m (Zm (b+1) w1) g rfl (Za _) (by omega) s ?_);intro v' w2 k o q;have a:=j.below o (by omega);obtain⟨vA,vc,f⟩:=k.form;obtain⟨N,hN⟩:∃N,Hid ((l++[c]).length=N):=⟨_,rfl⟩;rw[hN.out]at f;subst f;have f1:=a.frozen 1;have c2:=a.cell 1;simp at c2;obtain⟨k1,k2⟩:=Zgg a 1 (.slice vA N vc);go_wp2;go_ret;exact⟨rfl,⟨p,_,k1,t,k.grown k2 (by omega)⟩,Zq4 i d o k2,Zqa rfl d m q k2⟩
theorem Zkw(b:Nat)(l:List UInt8)(s:ByteArray)(w:World)(h:Bld w b l)(q:l.length+s.size≤140737488355328) :
 Calls prog 14 #[.pointer (some ⟨b,0,none⟩),.string s] w fun e w'=>e=.returned (.tuple #[.int .i64 s.size,.nilIface])∧Bld w' b (l++s.data.toList)∧Below b w w'∧Others b w w':=by
 have g:=h.lt;go_enter func14,ntmps14;go_wp2_with fail;refine(Ziw b l _ h).mono ?_;rintro e w1 ⟨rfl,⟨p,v,i,r,k⟩,c⟩;have c1:=i.cell 1;simp at c1;have f:=i.lt;go_wp2_with (at_builtin;refine Zft (n:=140737488355328) s Za7 underlying9 _ _ rfl rfl rfl rfl k (Zm (b+1) w1) f (Za _) q ?_);intro v' w2 j m o;have a:=i.below m (by omega);obtain⟨vA,vc,d⟩:=j.form;obtain⟨N,hN⟩:∃N,Hid ((l++Zb9 s).length=N):=⟨_,rfl⟩;rw[hN.out]at d;subst d;have f1:=a.frozen 1;have c2:=a.cell 1;simp at c2;obtain⟨k1,k2⟩:=Zgg a 1 (.slice vA N vc);go_wp2;go_ret2;exact⟨rfl,⟨p,_,k1,r,j.grown k2 (by omega)⟩,Zq4 g c m k2,Zqa rfl c k o k2⟩
end Ln
end Go.Proofs.YtbcpbnfojfiekaaGreatDoor
