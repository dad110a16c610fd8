/- A part of what the last text stands on. -/
import Derived.Deep.DeepCutAuto
import Derived.Lib.AppendIntMem
import Derived.Deep.CutBlock
import Derived.Laws.StructEq
import Derived.Test.YtbcpbnfojfiekaaGreatDoorK02
import Derived.Test.YtbcpbnfojfiekaaGreatDoorK03
import Derived.Test.YtbcpbnfojfiekaaGreatDoorK04
namespace Go.Proofs.YtbcpbnfojfiekaaGreatDoor
open Go.ChangeShapes Go.WideShapes Go.ChangeAt Go.RowKit Go.Proofs.Tryz Qa Qb Qc
set_option linter.all false
set_option maxHeartbeats 20000000
set_option maxRecDepth 100000
variable{P:Program}{w w':World}{a:Act}{o:Oper}{ops:Array Oper}{rest:List Oper}{Q:Exit→Act→World→Prop}{K:Act→World→Prop}{v:Value}{h:View}{e t te:TypeId}{i g off bs b c:Nat}{x y:Operand}{α:Type}{xs:List α}{enc:α→Value}
theorem Zec{n B:Nat}(u:α)(b:o.guard=none)(j:o.op=.store t x y)(d:a.eval x=.pointer (some ⟨g,i,none⟩))(k:a.eval y=enc u)(ht:(P.info? t).map (·.size)=some 1)(hn:(enc u).cells=#[enc u])(f:(enc u).oneCell'=true)(q:OwnVec enc e w B (.slice (some ⟨g,0,none⟩) n c) xs)(hi:i<xs.length)(h:∀w',OwnVec enc e w' B (.slice (some ⟨g,0,none⟩) n c) (xs.set i u)→w.grownBy w' (some g)→wpList P ops Q rest (a.put o.dst undef) w'):wpList P ops Q (o::rest) a w :=
 wpList_plain b fun _ l=>Zpi u j d k ht hn f q hi fun w' p m=>l _ _ (h w' p m)
theorem RVec.one(x:α)(a:h ⟨g,0,none⟩=some (enc x))(b:bs≤140737488355328):RVec enc bs h (.slice (some ⟨g,0,none⟩) 1 1) [x] :=
 ⟨_,1,rfl,Za _,by decide,by simpa using b,(fun h=>by cases h),fun _=>⟨g,0,rfl,fun i hi=>by
  have:i=0:=by simpa using hi
  subst this;simpa using a⟩⟩
theorem Zuo(x:Nat)(w:World)(a:W32 x):Calls prog 247 #[.int .u32 x,.int .i64 (-16)] w fun e w'=>e=.returned (.int .u32 (rot x 16:Nat))∧w=w':=by
 have H:=Zb (Zob (s:=16) a (by decide));unfold W32 at a;have e0:bits .and .u64 (IntKind.u64.wrap (-16)) 31=16:=by decide
 have e1:IntKind.u64.wrap (32-16)=16:=by decide
 go_enter func247,ntmps247;go_wp2
 go_ret;exact⟨congrArg _ (congrArg _ H.out),rfl⟩
theorem Zup(x:Nat)(w:World)(a:W32 x):Calls prog 247 #[.int .u32 x,.int .i64 (-12)] w fun e w'=>e=.returned (.int .u32 (rot x 12:Nat))∧w=w':=by
 have H:=Zb (Zob (s:=12) a (by decide));unfold W32 at a;have e0:bits .and .u64 (IntKind.u64.wrap (-12)) 31=20:=by decide
 have e1:IntKind.u64.wrap (32-20)=12:=by decide
 go_enter func247,ntmps247;go_wp2
 go_ret;exact⟨congrArg _ (congrArg _ H.out),rfl⟩
theorem Zwv(x:Nat)(w:World)(a:W32 x):Calls prog 247 #[.int .u32 x,.int .i64 (-8)] w fun e w'=>e=.returned (.int .u32 (rot x 8:Nat))∧w=w':=by
 have H:=Zb (Zob (s:=8) a (by decide));unfold W32 at a;have e0:bits .and .u64 (IntKind.u64.wrap (-8)) 31=24:=by decide
 have e1:IntKind.u64.wrap (32-24)=8:=by decide
 go_enter func247,ntmps247;go_wp2
 go_ret;exact⟨congrArg _ (congrArg _ H.out),rfl⟩
theorem Zww(x:Nat)(w:World)(a:W32 x):Calls prog 247 #[.int .u32 x,.int .i64 (-7)] w fun e w'=>e=.returned (.int .u32 (rot x 7:Nat))∧w=w':=by
 have H:=Zb (Zob (s:=7) a (by decide));unfold W32 at a;have e0:bits .and .u64 (IntKind.u64.wrap (-7)) 31=25:=by decide
 have e1:IntKind.u64.wrap (32-25)=7:=by decide
 go_enter func247,ntmps247;go_wp2
 go_ret;exact⟨congrArg _ (congrArg _ H.out),rfl⟩
def encN(n:Nat):Value:=.int .i64 n
theorem Zg0{v:List Nat}(hi:i<v.length):v[i]=at0 v i:=by unfold at0;simp[hi]
theorem Zsx{s:List Nat}(h:Ws 8 s):Ws 16 (s++Zc5):=by
 refine⟨by rw[Zl,h.1];rfl,fun i=>?_⟩;have hi:=h.2 i;unfold at0 W32 at *;rw[List.getD_eq_getElem?_getD]at *
 by_cases a:i<s.length
 ·rw[List.getElem?_append_left a];exact hi
 ·rw[List.getElem?_append_right (by omega)];generalize i-s.length=j
  have:∀j,(Zc5[j]?.getD 0)<4294967296:=fun j=>by
   by_cases b:j<8
   ·have:∀j:Fin 8,(Zc5[(j:Nat)]?.getD 0)<4294967296:=by decide
    exact this ⟨j,b⟩
   ·rw[List.getElem?_eq_none (by show 8≤j;omega)];decide
  exact this j
theorem Zw7{r:Nat}(a:r<10):(Zfp.getD r []).length=16:=by
 have:∀r:Fin 10,(Zfp.getD r []).length=16:=by decide
 exact this ⟨r,a⟩
theorem ord_lt{r:Nat}(a:r<10)(hi:i<16):ord r i<16:=by
 have:∀(r:Fin 10) (i:Fin 16),ord r i<16:=by decide +kernel
 exact this ⟨r,a⟩ ⟨i,hi⟩
def encU(n:Nat):Value:=.int .u32 n
theorem Ztq(n:Nat):(encU n).oneCell'=true:=rfl
structure Tabs (h:View):Prop where
 first:∀i,i<8→h ⟨9,i,none⟩=some (encU (at0 Zc5 i))
 order:∀i,i<160→h ⟨10,i,none⟩=some (encN (at0 Zfp.flatten i))
 lanes:∀i,i<32→h ⟨11,i,none⟩=some (encN (at0 ((List.range 8).map fun i=>[(lane i).1,(lane i).2.1,(lane i).2.2.1,(lane i).2.2.2]).flatten i))
theorem Tabs.mono{b:View}(ht:Tabs h)(a:VLe h b):Tabs b:=⟨fun i hi=>a _ _ (ht.first i hi),fun i hi=>a _ _ (ht.order i hi),fun i hi=>a _ _ (ht.lanes i hi)⟩
def ordAgg:Value:=.agg (Zfp.flatten.map encN).toArray
def Zge(i:Nat):List Nat:=[(lane i).1,(lane i).2.1,(lane i).2.2.1,(lane i).2.2.2]
def Ztj:Value:=.agg ((((List.range 8).map Zge).flatten).map encN).toArray
def Zth(r:Nat):List Nat:=Zfp.getD r []
theorem Zxt(k:Nat)(a:k<10)(w:World):(Instr.index 323 ordAgg (.int .i64 k)).run prog w=.ok (.agg ((Zth k).map encN).toArray) w :=
 match k,a with
 |0,_=>by kernel_rfl
 |1,_=>by kernel_rfl
 |2,_=>by kernel_rfl
 |3,_=>by kernel_rfl
 |4,_=>by kernel_rfl
 |5,_=>by kernel_rfl
 |6,_=>by kernel_rfl
 |7,_=>by kernel_rfl
 |8,_=>by kernel_rfl
 |9,_=>by kernel_rfl
theorem Zu6(k:Nat)(a:k<8)(w:World):(Instr.index 325 Ztj (.int .i64 k)).run prog w=.ok (.agg ((Zge k).map encN).toArray) w :=
 match k,a with
 |0,_=>by kernel_rfl
 |1,_=>by kernel_rfl
 |2,_=>by kernel_rfl
 |3,_=>by kernel_rfl
 |4,_=>by kernel_rfl
 |5,_=>by kernel_rfl
 |6,_=>by kernel_rfl
 |7,_=>by kernel_rfl
theorem Zh8{ad:Addr}{n:Nat}(cs:List Value)(g:v=.agg cs.toArray)(k:o.op=.load t x)(f:a.eval x=.pointer (some ad))(c:(isAgg t).run P w=.ok true w)(hi:(P.info? t).map (·.size)=some n)(l:cs.length=n)(m:∀j v,cs[j]?=some v→w.cell? (ad.add j)=some v)(h:K (a.put o.dst v) w):o.wp P a w K Q:=by
 subst g;obtain⟨i,d,rfl⟩:=Option.map_eq_some_iff.1 hi
 have b:(loadVar t ad).run P w=.ok (.agg cs.toArray) w:=by
  have:=run_loadCells_list (P:=P) w ad cs m;rw[l]at this;simp[loadVar,c,sizeOf,typeInfo,d,this]
 have e:(Instr.loadAt t (.pointer (some ad))).run P w=.ok (.agg cs.toArray) w:=by
  simp[Instr.loadAt,Instr.sureAddr,b]
 unfold Oper.wp;simp[execOp,k,f,e,Result.andThen,Oper.upon];exact h
theorem Zbe{ad:Addr}{n:Nat}(cs:List Value)(e:v=.agg cs.toArray)(c:o.guard=none)(f:o.op=.load t x)(d:a.eval x=.pointer (some ad))(b:(isAgg t).run P w=.ok true w)(hi:(P.info? t).map (·.size)=some n)(i:cs.length=n)(k:∀j v,cs[j]?=some v→w.cell? (ad.add j)=some v)(h:wpList P ops Q rest (a.put o.dst v) w):wpList P ops Q (o::rest) a w :=
 wpList_plain c fun _ g=>Zh8 cs e f d b hi i k (g _ _ h)
theorem Zky(d s:Operand)(dT sT:TypeId){elem:TypeId}{enc:Nat→Value}{dc g2 o2 sc n:Nat}{xs ys:List Nat}(y:o.op=.call {callee:=.builtin .copy,args:=#[d,s],argTypes:=#[dT,sT] })(hu:P.underlying dT=some (.slice elem))(l:(P.info? elem).map (·.size)=some 1)(hd:a.eval d=.slice (some ⟨g,off,none⟩) n dc)(A:a.eval s=.slice (some ⟨g2,o2,none⟩) n sc)(r:Arr w g te enc xs)(z:ys.length=n)(i:off+n≤xs.length)(f:∀j (k:j<ys.length),w.cell? ⟨g2,o2+j,none⟩=some (enc ys[j]))(u:∀x,(enc x).oneCell'=true)(h:∀w',Arr w' g te enc (xs.take off++(ys++xs.drop (off+n)))→w.grownBy w' (some g)→K (a.put o.dst (goInt n)) w'):o.wp P a w K Q:=by
 subst z
 have b:=run_copy_row (P:=P) w dT sT o.type elem g off ys.length dc ⟨g2,o2,none⟩ ys.length sc (xs.map enc).toArray te (ys.map enc) hu l r (by simp) (fun j v k=>by
  have c:j<ys.length:=by have:=(List.getElem?_eq_some_iff.1 k).1;simpa using this
  rw[Zbs,f j c]
  simpa[c]using k) (by simpa using i) (fun v t=>by obtain⟨x,_,rfl⟩:=List.mem_map.1 t;exact u x)
 obtain⟨q,p⟩:=Zmk r ((xs.take off++(ys++xs.drop (off+ys.length))).map enc).toArray
 have e:((xs.map enc).toArray.toList.take off++ys.map enc++(xs.map enc).toArray.toList.drop (off+(ys.map enc).length)).toArray=((xs.take off++(ys++xs.drop (off+ys.length))).map enc).toArray:=by
  simp[List.map_append]
 rw[e]at b;have h:=fun w'=>h w'
 unfold Arr at h;obtain⟨Z,m⟩:∃Z,((xs.take off++(ys++xs.drop (off+ys.length))).map enc).toArray=Z:=⟨_,rfl⟩;rw[m]at b q p h;clear e m;unfold Oper.wp;simp[execOp,y,resolve,invoke,builtin,hd,A,b,Result.andThen,Oper.upon];exact h _ q p
theorem below_2(w:World)(o1 o2:Obj):Below w.heap.size w ((w.alloc o1).alloc o2):=((Zm _ _).alloc (Za _) _).alloc (Zar _ (Za _)) _
theorem Zfv{ev:Operand→Value}(ty:TypeId)(x:Operand)(a:o.op=.load ty x)(g:Nat)(b:ev x=.pointer (some ⟨g,0,none⟩))(t:TypeId)(cs:Array Value)(fr:Nat×Nat)(d:TypeDesc)(c:w.heap[g]?=some (.cells cs t fr))(hu:P.underlying ty=some d)(hd:(match d with|.struct _|.array _ _=>true|_=>false)=true)(hi:(P.info? ty).map (·.size)=some cs.size):(execOp ev o).run P w=.ok (.value (.agg cs)) w:=by
 unfold execOp;simp only[a,b,Instr.loadAt,Instr.sureAddr,Sem.run_bind,Sem.run_pure,Result.andThen_ok,run_loadVar_row w g t ty cs fr d c hu hd hi]
namespace Ln
theorem Bld.lib{l:List UInt8}(h:Bld w b l):Lib.IsBuilder 55 5 b b (Lib.byteCells l) w:=by
 obtain⟨p,v,d,g,a⟩:=h;have f:=(a.base (Nat.le_succ b)).own
 have c:Lib.BuilderAt 55 5 b b p (Lib.byteCells l) w:=by
  refine⟨Za _,v,d,?_,fun e=>?_⟩
  ·have e1:Lib.byteCells l=l.map encB:=rfl;rw[e1,List.length_map];exact f
  ·have:=(a.own.lt b e).1;omega
 rcases g with rfl|rfl
 ·exact .inl c
 ·exact .inr c
theorem Zne(b:Nat)(l:List UInt8)(w:World)(h:Bld w b l) :
 Calls prog 17 #[.pointer (some ⟨b,0,none⟩)] w fun e w'=>e=.returned (.string (mkS l))∧Below b w w' :=
 Builder_String_any b b l w h.lib (by have:=h.lt;omega)
theorem Zxw(l:List UInt8)(c:UInt8):hexL (l++[c])=hexL l++[hexd (c.toNat/16)]++[hexd (c.toNat%16)]:=by
 unfold hexL;simp[List.flatMap_append]
theorem hexL_len(l:List UInt8):(hexL l).length=2*l.length:=by
 induction l with
 |nil=>rfl
 |cons c l ih =>
  have:hexL (c::l)=[hexd (c.toNat/16),hexd (c.toNat%16)]++hexL l:=rfl;rw[this,Zl,ih];simp;omega
theorem Zwc(s:ByteArray)(k:Nat)(h:k<s.size):s.data.toList.take (k+1)=s.data.toList.take k++[s[k]]:=by
 rw[Zn (by simpa using h)];rfl
theorem Ztr(n:Nat)(h:n<16):(((({ data:=#[48,49,50,51,52,53,54,55,56,57,97,98,99,100,101,102] }:ByteArray)[n]'(h)).toNat:Nat):Int)=(hexd n).toNat:=by
 have a:∀m:Fin 16,((({ data:=#[48,49,50,51,52,53,54,55,56,57,97,98,99,100,101,102] }:ByteArray)[m.val]'(m.isLt)).toNat:Nat)=(hexd m.val).toNat:=by decide +kernel
 exact congrArg Int.ofNat (a ⟨n,h⟩)
theorem hex_any(s:ByteArray)(w:World)(A:s.size≤4000) :
 Calls prog 16 #[.string s] w fun e w'=>e=.returned (.string (mkS (hexL s.data.toList)))∧Below w.heap.size w w':=by
 go_enter func16,ntmps16;go_wp2
 go_loopw [7] (fun i wr=>∃k:Nat,k≤s.size∧i=.int .i64 k∧Bld wr w.heap.size (hexL (s.data.toList.take k))∧Below w.heap.size w wr) (fun i _=>s.size-(intOf i).toNat)
 case atStart=>exact⟨0,Zf _,rfl,Bld.new w,Zac _ _⟩
 case round =>
  obtain⟨k,h,rfl,d,c⟩:=hrel;have t:=hexL_len (s.data.toList.take k);have f:(s.data.toList.take k).length≤k:=List.length_take_le _ _
  by_cases o:k<s.size
  ·have m:Hid (hexL (s.data.toList.take (k+1))=hexL (s.data.toList.take k)++[hexd (s[k].toNat/16)]++[hexd (s[k].toNat%16)]):=by
    show _=_;rw[Zwc s k o,Zxw]
   have z:=UInt8.toNat_lt s[k];have p:s[k].toNat/16<16:=by omega
   have y:(s[k].toNat:Int)/16<16:=by omega
   have r:s[k].toNat%16<16:=by omega
   have v:(s[k].toNat:Int)%16<16:=by omega
   obtain⟨L,q⟩:∃L,Hid (hexL (s.data.toList.take k)=L):=⟨_,rfl⟩;rw[q.out]at d t m;have x:L.length≤8000:=by omega
   clear t f;go_wp2_with fail;refine(Zh7 _ L (hexd (s[k].toNat/16)) _ d (by omega) _ (Ztr _ p)).mono ?_;rintro e w1 ⟨rfl,n,l,_⟩;go_wp2_with fail;refine(Zh7 _ _ (hexd (s[k].toNat%16)) _ n (by simp;omega) _ (Ztr _ r)).mono ?_;rintro e w2 ⟨rfl,j,a,_⟩;have g:=(c.trans l).trans a;have b:Bld w2 w.heap.size (hexL (s.data.toList.take (k+1))):=by rw[m.out];exact j
   clear d n j l a c;go_wp2;go_roundw
   case rel=>exact⟨k+1,by omega,by go_num,b,g⟩
   case measure=>simp[intOf];omega
  ·have u:k=s.size:=by omega
   have b:Bld wr w.heap.size (hexL s.data.toList):=by
    rw[u,List.take_of_length_le (by simp)]at d;exact d
   clear d t f;go_wp2_with fail;refine(Zne _ _ _ b).mono ?_;rintro e w2 ⟨rfl,a⟩;go_wp2;go_ret;exact⟨rfl,c.trans a⟩
end Ln
namespace Ln
def RAct:View→List Value→Ac→Prop:=fun _ cs a=>cs=[.int .i64 a.kind,.int .i64 a.node,.int .i64 a.pick,.string a.text]
theorem RAct.mono:∀(h a:View) (cs:List Value) (x:Ac),RAct h cs x→VLe h a→RAct a cs x:=fun _ _ _ _ r _=>r
abbrev RActs:=RSl 4 RAct 40
theorem RActs.at{xs:List Ac}(r:RActs h v xs):∃A c,v=.slice A xs.length c∧xs.length≤c∧c≤maxLen∧xs.length≤140737488355328∧∀k (f:k<xs.length),∃b o,A=some ⟨b,o,none⟩∧h ⟨b,o+k*4,none⟩=some (.int .i64 xs[k].kind)∧h ⟨b,o+k*4+1,none⟩=some (.int .i64 xs[k].node)∧h ⟨b,o+k*4+2,none⟩=some (.int .i64 xs[k].pick)∧h ⟨b,o+k*4+3,none⟩=some (.string xs[k].text):=by
 obtain⟨A,c,e,g,l,m,_,i⟩:=r;refine⟨A,c,e,g,l,by omega,fun k f=>?_⟩;obtain⟨b,o,ea,j⟩:=i (by omega);obtain⟨cs,n,a,d⟩:=j k f;have d:cs=_:=d;subst d;exact⟨b,o,ea,a 0 (by decide),a 1 (by decide),a 2 (by decide),a 3 (by decide)⟩
def Words(h:View):Prop:=∀k,k<11→h ⟨0,k,none⟩=some (.string (mkS (Ze9 k)))
theorem Words.mono{a:View}(w:Words h)(c:VLe h a):Words a:=fun k b=>c _ _ (w k b)
def Pow(w : World) : Prop := Lib.TabIs prog w "internal/strconv.uint64pow10" .u64 Lib.pow10Tab
theorem Pow.kept(h:Pow w)(a:Below w.heap.size w w'):Pow w':=Lib.tabBelow_of_tabIs h w' a
theorem Zvo(w:World)(k:Nat)(os:Array Obj):Below w.heap.size w (Sort.grow (w.drewN k) os):=by
 refine⟨rfl,rfl,rfl,?_,fun i hi=>?_⟩
 ·simp[Sort.grow,World.drewN]
 ·simp[Sort.grow,World.drewN,Array.getElem?_append,hi]
theorem Zox(n:Int)(b:0≤n)(a:n≤9223372036854775807)(w:World)(hP:Pow w) :
 Calls prog 15 #[.int .i64 n] w fun e w'=>e=.returned (.string (mkS (decL n)))∧Below w.heap.size w w':=by
 refine(strconv_Itoa n (by omega) a w hP).mono ?_;rintro e w' ⟨rfl,k,os,rfl⟩;refine⟨?_,Zvo w k os⟩;unfold decL Lib.itoa;rw[if_neg (by omega)];rfl
def Sh(w0:World)(w:World)(L:List UInt8):Prop:=Bld w w0.heap.size L∧Below w0.heap.size w0 w
theorem sh_ws{w0:World}{L:List UInt8}(h:Sh w0 w L)(s:ByteArray)(b:L.length+s.size≤140737488355328) :
 Calls prog 14 #[.pointer (some ⟨w0.heap.size,0,none⟩),.string s] w fun e w'=>e=.returned (.tuple #[.int .i64 s.size,.nilIface])∧Sh w0 w' (L++s.data.toList)∧Others w0.heap.size w w':=by
 refine(Zkw _ _ s w h.1 b).mono ?_;rintro e w' ⟨rfl,a,c,d⟩;exact⟨rfl,⟨a,h.2.trans c⟩,d⟩
theorem sh_it{w0:World}{L:List UInt8}(h:Sh w0 w L)(hP:Pow w0)(n:Int)(b:0≤n)(c:n≤9223372036854775807) :
 Calls prog 15 #[.int .i64 n] w fun e w'=>e=.returned (.string (mkS (decL n)))∧Sh w0 w' L∧Others w0.heap.size w w':=by
 refine(Zox n b c w (hP.kept h.2)).mono ?_;rintro e w' ⟨rfl,a⟩;exact⟨rfl,⟨h.1.kept a,h.2.trans (a.mono h.2.size)⟩,.below a⟩
theorem sh_hx{w0:World}{L:List UInt8}(h:Sh w0 w L)(s:ByteArray)(b:s.size≤4000) :
 Calls prog 16 #[.string s] w fun e w'=>e=.returned (.string (mkS (hexL s.data.toList)))∧Sh w0 w' L∧Others w0.heap.size w w':=by
 refine(hex_any s w b).mono ?_;rintro e w' ⟨rfl,a⟩;exact⟨rfl,⟨h.1.kept a,h.2.trans (a.mono h.2.size)⟩,.below a⟩
theorem act_fine{a:Ac}(h:actE a=0):1≤a.kind∧a.kind≤10∧(hN a.kind=true→0≤a.node∧a.node≤3)∧(hP a.kind=true→0≤a.pick∧a.pick≤400000)∧(hT a.kind=true→a.text.size≤4000):=by
 unfold actE actF at h;split at h
 ·cases h
 ·rename_i d;split at h
  ·cases h
  ·rename_i b;split at h
   ·cases h
   ·rename_i c;simp only[Bool.or_eq_true,Bool.and_eq_true,Bool.not_eq_true',not_or,not_and,Bool.not_eq_false,decide_eq_true_eq,inB]at d b c;refine⟨by omega,by omega,fun q=>?_,fun q=>?_,fun q=>?_⟩
    ·have:=b.1 q;omega
    ·have:=b.2 q;omega
    ·have:=c q;omega
theorem wordL_len(k:Nat):(Ze9 k).length≤6:=by
 unfold Ze9
 rcases Nat.lt_or_ge k 11 with h|h
 ·have a:∀m:Fin 11,(((Zkz[m.val]?).getD []).length≤6):=by decide
  exact a ⟨k,h⟩
 ·rw[List.getElem?_eq_none (by exact h)];decide
theorem Zo5(n:Int)(h:0≤n):((decL n).length:Int)≤n+1:=by
 have:=(Ziz n.toNat).2.2.2;unfold decL;omega
theorem Zxi{a:Ac}(h:actE a=0):(lineL a).length≤500000:=by
 obtain⟨_,_,b,c,d⟩:=act_fine h;have w1:=wordL_len a.kind.toNat;unfold lineL;simp only[Zl]
 have e1:(if hN a.kind then 32::decL a.node else []).length≤10:=by
  split
  ·rename_i q;have:=Zo5 a.node (b q).1;have:=b q;simp;omega
  ·simp
 have e2:(if hP a.kind then 32::decL a.pick else []).length≤400010:=by
  split
  ·rename_i q;have:=Zo5 a.pick (c q).1;have:=c q;simp;omega
  ·simp
 have e3:(if hT a.kind then 32::hexL a.text.data.toList else []).length≤8001:=by
  split
  ·rename_i q;have:=d q;have e:a.text.data.toList.length=a.text.size:=Array.length_toList;simp only[Zu,hexL_len,e];omega
  ·simp
 simp only[List.length_singleton];omega
theorem Zuk(l:List Ac)(k:Nat)(h:k<l.length):showL (l.take (k+1))=showL (l.take k)++lineL l[k]:=by
 unfold showL;rw[Zn h,List.flatMap_append];simp
theorem Zwn(l:List Ac)(h:∀a∈l,actE a=0):(showL l).length≤l.length*500000:=by
 induction l with
 |nil=>simp[showL]
 |cons a l ih =>
  have c:=Zxi (h a (by simp));have d:=ih (fun x b=>h x (by simp[b]));have:showL (a::l)=lineL a++showL l:=rfl;rw[this,Zl,Zu,Nat.add_mul];omega
theorem badI_at(l:List Ac)(k:Nat)(b:k<l.length)(h:actE l[k]≠0)(hn:∀j (a:j<l.length),j<k→actE l[j]=0):badI l=k:=by
 unfold badI;rw[List.findIdx_eq b];exact⟨by simpa using h,fun j a=>by have:=hn j (by omega) a;simpa using this⟩
theorem Zyr(l:List Ac)(hn:∀j (a:j<l.length),actE l[j]=0):badI l=l.length:=by
 unfold badI;rw[List.findIdx_eq_length];intro x b;obtain⟨j,a,rfl⟩:=List.getElem_of_mem b;simpa using hn j a
end Ln
namespace Ln
theorem mkS_bstr(l:List UInt8):bstr l=mkS l:=rfl
end Ln
namespace Ln
theorem spl_len(c:UInt8)(l:List UInt8):(spl c l).length≤l.length+1:=by
 induction l with
 |nil=>exact Za _
 |cons b l ih =>
  unfold spl;split
  ·simp;omega
  ·split
   ·rename_i h t e;rw[e]at ih;simp at ih⊢;omega
   ·simp
end Ln
end Go.Proofs.YtbcpbnfojfiekaaGreatDoor
