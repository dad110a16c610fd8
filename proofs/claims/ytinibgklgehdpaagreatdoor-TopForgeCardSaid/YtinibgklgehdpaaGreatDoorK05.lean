/- A part of what the last text stands on. -/
import Derived.Laws.BitsLemmas
import Derived.Lib.EndianBits
import Derived.Deep.DeepCutAuto
import Derived.Test.YtinibgklgehdpaaGreatDoorK01
import Derived.Test.YtinibgklgehdpaaGreatDoorK02
import Derived.Test.YtinibgklgehdpaaGreatDoorK03
import Derived.Test.YtinibgklgehdpaaGreatDoorK04
namespace Go.Proofs.YtinibgklgehdpaaGreatDoor
open Go.ChangeShapes Go.WideShapes Go.ChangeAt Go.RowKit Qa Qb Qc
set_option linter.all false
set_option maxHeartbeats 20000000
set_option maxRecDepth 100000
variable{P:Program}{w:World}{a:Act}{o:Oper}{ops:Array Oper}{rest:List Oper}{Q:Exit→Act→World→Prop}{K:Act→World→Prop}{v:Value}{A:Option Addr}{h:View}{t te:TypeId}{k i j g off bs b c:Nat}{x:Operand}{α:Type}{xs:List α}{enc:α→Value}
def add2(x y:Nat):Nat:=(x+y)%4294967296
def add3(x y z:Nat):Nat:=(x+y+z)%4294967296
def rot(x s:Nat):Nat:=x*2^(32-s)%4294967296 ||| x/2^s
def Zct(x y:Nat):Nat:=x ^^^ y
def W32(x:Nat):Prop:=x<4294967296
theorem Zw4:(4294967296:Nat)=2^32:=by decide
theorem Zz7(x y:Nat):W32 (add2 x y):=Nat.mod_lt _ (by decide)
theorem Zz6(x y z:Nat):W32 (add3 x y z):=Nat.mod_lt _ (by decide)
theorem rot_lt{x s:Nat}(h:W32 x):W32 (rot x s):=by
 unfold W32 rot at *;rw[Zw4]at *;refine Nat.or_lt_two_pow (Nat.mod_lt _ (by decide)) (Nat.lt_of_le_of_lt (Nat.div_le_self _ _) h)
theorem Zcs{x y:Nat}(h:W32 x)(k:W32 y):W32 (Zct x y):=by
 unfold W32 Zct at *;rw[Zw4]at *;exact Nat.xor_lt_two_pow h k
theorem Zyf(k:IntKind)(j:Nat)(hj:j≤k.bits)(hk:∀n:Int,0≤n→n<2^j→k.wrap n=n)(a b:Nat)(ha:a<2^j)(hb:b<2^j) :
 bits .xor k a b=((a ^^^ b:Nat):Int):=by
 have hp:2^j≤2^k.bits:=Nat.pow_le_pow_right (by decide) hj;have ha':a%2^k.bits=a:=Nat.mod_eq_of_lt (Nat.lt_of_lt_of_le ha hp);have hb':b%2^k.bits=b:=Nat.mod_eq_of_lt (Nat.lt_of_lt_of_le hb hp);have cast:∀n:Nat,n<2^j→((n:Nat):Int)<2^j:=fun n h=>by exact_mod_cast h
 simp only[bits,BitVec.ofInt_natCast,BitVec.toNat_xor,BitVec.toNat_ofNat,ha',hb'];exact hk _ (Int.natCast_nonneg _) (cast _ (Nat.xor_lt_two_pow ha hb))
theorem Zpo(n:Int)(h₀:0≤n)(h₁:n<2^32):IntKind.u32.wrap n=n:=by rw[IntKind.wrap_u32];omega
theorem Zj6(n:Int)(h₀:0≤n)(h₁:n<2^62):IntKind.i64.wrap n=n:=by rw[IntKind.wrap_i64];omega
theorem Zfs{a:Nat}(ha:W32 a)(hb:W32 b):bits .xor .u32 a b=(Zct a b:Int):=by
 unfold W32 at *;rw[Zw4]at *;exact Zyf .u32 32 (by decide) Zpo a b ha hb
theorem Zm9{x s:Nat}(hx:W32 x)(hs:s≤32):bits .or .u32 (IntKind.u32.wrap ((x:Int)*2^(32-s))) ((x:Int)/2^s)=(rot x s:Int):=by
 unfold W32 at hx
 have e1:IntKind.u32.wrap ((x:Int)*2^(32-s))=((x*2^(32-s)%4294967296:Nat):Int):=by
  have e:(x:Int)*2^(32-s)=((x*2^(32-s):Nat):Int):=by push_cast;rfl
  rw[IntKind.wrap_u32,e];omega
 have e2:(x:Int)/2^s=((x/2^s:Nat):Int):=by push_cast;rfl
 rw[e1,e2];unfold rot;rw[Zw4]at *;exact(bits_nat .u32 32 (by decide) Zpo _ _ (Nat.mod_lt _ (by decide)) (Nat.lt_of_le_of_lt (Nat.div_le_self _ _) hx)).2
theorem Zq5{x y z:Nat}:IntKind.u32.wrap ((x:Int)+IntKind.u32.wrap ((y:Int)+(z:Int)))=(add3 x y z:Nat):=by
 rw[IntKind.wrap_u32,IntKind.wrap_u32];unfold add3;omega
theorem Zq6{x y:Nat}:IntKind.u32.wrap ((x:Int)+(y:Int))=(add2 x y:Nat):=by
 rw[IntKind.wrap_u32];unfold add2;omega
def Zc3:List Nat:=[1779033703,3144134277,1013904242,2773480762,1359893119,2600822924,528734635,1541459225]
def Zff:List (List Nat):=[[0,1,2,3,4,5,6,7,8,9,10,11,12,13,14,15],[14,10,4,8,9,15,13,6,1,12,0,2,11,7,5,3],[11,8,12,0,5,2,15,13,10,14,3,6,7,1,9,4],[7,9,3,1,13,12,11,14,2,6,5,10,4,0,15,8],[9,0,5,7,2,4,10,15,14,1,11,12,6,8,3,13],[2,12,6,10,0,11,8,3,4,13,7,5,15,14,1,9],[12,5,1,15,14,13,4,10,0,7,6,3,9,2,8,11],[13,11,7,14,12,1,3,9,5,0,15,4,8,6,2,10],[6,15,14,9,11,3,0,8,12,2,13,7,1,4,10,5],[10,2,8,4,7,6,1,5,15,11,9,14,3,12,13,0]]
def ord(r i:Nat):Nat:=(Zff.getD r []).getD i 0
def lane(i:Nat):Nat×Nat×Nat×Nat:=if i<4 then(i,i+4,i+8,i+12)else(i-4,4+(i-4+1)%4,8+(i-4+2)%4,12+(i-4+3)%4)
def at0(v:List Nat)(i:Nat):Nat:=v.getD i 0
def mixA(v:List Nat)(a b x:Nat):List Nat:=v.set a (add3 (at0 v a) (at0 v b) x)
def mixC(v:List Nat)(c d:Nat):List Nat:=v.set c (add2 (at0 v c) (at0 v d))
def mixD(v:List Nat)(d a s:Nat):List Nat:=v.set d (rot (Zct (at0 v d) (at0 v a)) s)
def mix(v:List Nat)(a b c d x y:Nat):List Nat:=mixD (mixC (mixD (mixA (mixD (mixC (mixD (mixA v a b x) d a 16) c d) b c 12) a b y) d a 8) c d) b c 7
def Zqb(m:List Nat)(r:Nat)(v:List Nat)(i:Nat):List Nat:=mix v (lane i).1 (lane i).2.1 (lane i).2.2.1 (lane i).2.2.2 (at0 m (ord r (2*i))) (at0 m (ord r (2*i+1)))
def lanesTo(m:List Nat)(r:Nat)(v:List Nat)(k:Nat):List Nat:=(List.range k).foldl (Zqb m r) v
def roundsTo(m:List Nat)(v:List Nat)(k:Nat):List Nat:=(List.range k).foldl (fun v r=>lanesTo m r v 8) v
theorem Zji(m:List Nat)(r:Nat)(v:List Nat)(k:Nat):lanesTo m r v (k+1)=Zqb m r (lanesTo m r v k) k:=by simp[lanesTo,List.range_succ,List.foldl_append]
theorem Zh4(m:List Nat)(v:List Nat)(k:Nat):roundsTo m v (k+1)=lanesTo m k (roundsTo m v k) 8:=by simp[roundsTo,List.range_succ,List.foldl_append]
def Ws(n:Nat)(v:List Nat):Prop:=v.length=n∧∀i,W32 (at0 v i)
theorem Ws.set{n:Nat}{v:List Nat}(h:Ws n v){x:Nat}(hx:W32 x):Ws n (v.set i x):=by
 refine⟨by rw[List.length_set];exact h.1,fun j=>?_⟩;have hj:=h.2 j;unfold at0 at *;rw[List.getD_eq_getElem?_getD]at *;rw[List.getElem?_set];split
 ·split
  ·exact hx
  ·show W32 0;unfold W32;decide
 ·exact hj
theorem Ws.mixA{n:Nat}{v:List Nat}(h:Ws n v)(a b x:Nat):Ws n (mixA v a b x):=h.set (Zz6 ..)
theorem Ws.mixC{n:Nat}{v:List Nat}(h:Ws n v)(c d:Nat):Ws n (mixC v c d):=h.set (Zz7 ..)
theorem Ws.mixD{n:Nat}{v:List Nat}(h:Ws n v)(d a s:Nat):Ws n (mixD v d a s):=h.set (rot_lt (Zcs (h.2 d) (h.2 a)))
theorem Ws.mix{n:Nat}{v:List Nat}(h:Ws n v)(a b c d x y:Nat):Ws n (mix v a b c d x y):=(((((((h.mixA ..).mixD ..).mixC ..).mixD ..).mixA ..).mixD ..).mixC ..).mixD ..
theorem Ws.lanesTo{n:Nat}{v:List Nat}(h:Ws n v)(m:List Nat)(r k:Nat):Ws n (lanesTo m r v k):=by
 induction k with
 |zero=>exact h
 |succ k ih=>rw[Zji];exact ih.mix ..
theorem Ws.roundsTo{n:Nat}{v:List Nat}(h:Ws n v)(m:List Nat)(k:Nat):Ws n (roundsTo m v k):=by
 induction k with
 |zero=>exact h
 |succ k ih=>rw[Zh4];exact ih.lanesTo ..
def Zj8(b:List UInt8)(j:Nat):Nat:=(b.getD (4*j) 0).toNat+256*(b.getD (4*j+1) 0).toNat+65536*(b.getD (4*j+2) 0).toNat+16777216*(b.getD (4*j+3) 0).toNat
def words(b:List UInt8):List Nat:=(List.range 16).map (Zj8 b)
def Zhh(s:List Nat)(many:Nat)(last:Bool):List Nat :=
 let v:=(s++Zc3).set 12 (Zct (at0 (s++Zc3) 12) many)
 if last then v.set 14 (Zct (at0 v 14) 4294967295)else v
def Zgk(s v:List Nat)(i:Nat):Nat:=Zct (Zct (at0 s i) (at0 v i)) (at0 v (i+8))
def Zft(s:List Nat)(block:List UInt8)(many:Nat)(last:Bool):List Nat:=(List.range 8).map (Zgk s (roundsTo (words block) (Zhh s many last) 10))
def init8:List Nat:=Zc3.set 0 (Zct (at0 Zc3 0) 16842784)
def Zem(b:List UInt8)(k:Nat):List Nat:=(List.range k).foldl (fun s i=>Zft s ((b.drop (64*i)).take 64) (64*i+64) false) init8
theorem Zig(b:List UInt8)(k:Nat):Zem b (k+1)=Zft (Zem b k) ((b.drop (64*k)).take 64) (64*k+64) false:=by simp[Zem,List.range_succ,List.foldl_append]
def Zd6(s:List Nat)(i:Nat):UInt8:=UInt8.ofNat (at0 s (i/4)/2^(8*(i%4))%256)
def ahead(n:Nat):Nat:=(n-1)/64
def sumB(b:List UInt8):List UInt8:=(List.range 32).map (Zd6 (Zft (Zem b (ahead b.length)) (b.drop (64*ahead b.length)) b.length true))
theorem Zra(b:List UInt8):(sumB b).length=32:=by simp[sumB]
section
variable {P:Program} {ops:Array Oper} {Q:Exit→Act→World→Prop} {S:World→Prop}
def Ziv(ops:Array Oper)(kOk:Array Bool→Bool):List (Nat×Bool)→Array Bool→Bool
 |[],listed=>kOk listed
 |(i,q)::rest,listed=>(if q then Region.free .any ops listed i&&(Region.ready .any ops listed).contains i else Region.ready .any ops listed==[i])&&Ziv ops kOk rest (listed.setIfInBounds i true)
def Zfe(P:Program)(ops:Array Oper)(Q:Exit→Act→World→Prop)(S:World→Prop)(K:Act→World→Prop):List (Nat×Bool)→Act→World→Prop
 |[],a,w=>K a w
 |(i,true)::rest,a,w=>∃o v,ops[i]?=some o∧YieldsIf P ops S o v a∧Zfe P ops Q S K rest (a.put o.dst v) w
 |(i,false)::rest,a,w=>wpOp P ops Q i (fun a' w'=>S w'∧(S w'→Zfe P ops Q S K rest a' w')) a w
theorem Zeh(hs:Region.noSelect ops=true)(hQ:∀c a d v w,Q (.panic c) (Act.put a d v) w→Q (.panic c) a w){kOk:Array Bool→Bool}{K:Act→World→Prop}{m:Nat}(hk:∀listed a w,kOk listed=true→S w→K a w→wpAnyH P .any ops Q S m listed a w) :
 ∀(π:List (Nat×Bool)) (listed:Array Bool) (a:Act) (w:World),Ziv ops kOk π listed=true→S w→Zfe P ops Q S K π a w→wpAnyH P .any ops Q S (π.length+m) listed a w
 |[],listed,a,w,hp,hS,h=>by
  rw[List.length_nil,Nat.zero_add]
  exact hk listed a w hp hS h
 |(i,true)::rest,listed,a,w,hp,hS,h=>by
  obtain⟨o,v,ho,hy,hr⟩:=h
  simp only[Ziv,if_true,Bool.and_eq_true]at hp
  rw[List.length_cons,Nat.add_right_comm]
  exact wpAnyH_take ho hs hp.1.1 hp.1.2 (fun c a w=>hQ c a o.dst v w) hy hS (Zeh hs hQ hk rest _ _ w hp.2 hS hr)
 |(i,false)::rest,listed,a,w,hp,hS,h=>by
  simp only[Ziv,Bool.false_eq_true,if_false,Bool.and_eq_true,beq_iff_eq]at hp
  rw[List.length_cons,Nat.add_right_comm]
  refine wpAnyH_all hp.1 (by simp) (fun j hj=>?_)
  rw[List.mem_singleton.1 hj]
  exact wpOp_mono (fun a' w' hK=>⟨hK.1,Zeh hs hQ hk rest _ a' w' hp.2 hK.1 (hK.2 hK.1)⟩) h
inductive PT where
 |done (l:List (Nat×Bool))
 |alt (l:List (Nat×Bool)) (i j:Nat) (p q:PT)
def PT.fuel:PT→Nat
 |.done l=>l.length
 |.alt l _ _ p _=>l.length+(p.fuel+1)
def PT.ok(ops:Array Oper):PT→Array Bool→Bool
 |.done l,listed=>Ziv ops (fun x=>(Region.ready .any ops x).isEmpty) l listed
 |.alt l i j p q,listed=>Ziv ops (fun x=>Region.ready .any ops x==[i,j]&&p.ok ops (x.setIfInBounds i true)&&q.ok ops (x.setIfInBounds j true)&&p.fuel==q.fuel) l listed
def PT.wp(P:Program)(ops:Array Oper)(Q:Exit→Act→World→Prop)(S:World→Prop):PT→Act→World→Prop
 |.done l,a,w=>Zfe P ops Q S (Q .normal) l a w
 |.alt l i j p q,a,w=>Zfe P ops Q S (fun a w=>wpOp P ops Q i (fun a' w'=>S w'∧(S w'→p.wp P ops Q S a' w')) a w∧wpOp P ops Q j (fun a' w'=>S w'∧(S w'→q.wp P ops Q S a' w')) a w) l a w
theorem PT.sound(hs:Region.noSelect ops=true)(hQ:∀c a d v w,Q (.panic c) (Act.put a d v) w→Q (.panic c) a w) :
 ∀(t:PT) (listed:Array Bool) (a:Act) (w:World),t.ok ops listed=true→S w→t.wp P ops Q S a w→wpAnyH P .any ops Q S t.fuel listed a w
 |.done l,listed,a,w,hp,hS,h=>by
  have:=Zeh (m:=0) hs hQ (kOk:=fun x=>(Region.ready .any ops x).isEmpty) (K:=Q .normal) (fun x a w hx _ hK=>by
   have hr:Region.ready .any ops x=[]:=by simpa using hx
   exact wpAnyH_done hr hK 0) l listed a w hp hS h
  exact this
 |.alt l i j p q,listed,a,w,hp,hS,h=>by
  refine Zeh (m:=p.fuel+1) hs hQ (fun x a w hx hS hK=>?_) l listed a w hp hS h
  simp only[Bool.and_eq_true,beq_iff_eq]at hx
  obtain⟨⟨⟨h1,h2⟩,h3⟩,h4⟩:=hx
  refine wpAnyH_all h1 (by simp) (fun k hk=>?_)
  simp only[List.mem_cons,List.not_mem_nil,or_false]at hk
  rcases hk with rfl|rfl
  ·exact wpOp_mono (fun a' w' hK=>⟨hK.1,PT.sound hs hQ p _ a' w' h2 hK.1 (hK.2 hK.1)⟩) hK.1
  ·exact wpOp_mono (fun a' w' hK=>⟨hK.1,h4▸PT.sound hs hQ q _ a' w' h3 hK.1 (hK.2 hK.1)⟩) hK.2
theorem Zlv{id:Nat}{l:List Oper}(S:World→Prop)(t:PT)(hm:P.follows .mixedOrders=true)(hs:Region.noSelect l.toArray=true)(hQ:∀c a d v w,Q (.panic c) (Act.put a d v) w→Q (.panic c) a w)(hlen:t.fuel=l.length)(hπ:t.ok l.toArray (Array.replicate l.length false)=true)(hS:S w.drew)(h:∀W,S W→t.wp P l.toArray Q S a W):(Code.region id l.toArray true).wp P Q a w:=by
 refine wp_region_held hm (S:=S) ?_;have:=PT.sound (P:=P) (S:=S) hs hQ t (Array.replicate l.length false) a w.drew hπ hS (h _ hS);rw[hlen]at this;simpa using this
theorem Zhf(h:K a w):Zfe P ops Q S K [] a w:=h
theorem Zdg{rest:List (Nat×Bool)}(ho:ops[i]?=some o)(hw:Region.wanted o (yielded ops a.tmps)=true)(h:∃v,(∀w,S w→(execOp a.eval o).run P w=.ok (.value v) w)∧Zfe P ops Q S K rest (a.put o.dst v) w):Zfe P ops Q S K ((i,true)::rest) a w :=
 let ⟨v,hv,h⟩:=h
 ⟨o,v,ho,.inl ⟨hw,hv⟩,h⟩
theorem Zfp{R:Act→World→Prop}(ho:ops[i]?=some o)(hw:Region.wanted o (yielded ops a.tmps)=true)(h:∀K:Act→World→Prop,Shut (∀a' w',S w'→(S w'→R a' w')→K a' w')→Oper.wp P o a w K Q):wpOp P ops Q i (fun a' w'=>S w'∧(S w'→R a' w')) a w:=by
 unfold wpOp;simp only[ho,hw,if_true];exact .inl (h _ (fun a' w' h1 h2=>⟨h1,h2⟩))
theorem Zc9{rest:List (Nat×Bool)}(ho:ops[i]?=some o)(hw:Region.wanted o (yielded ops a.tmps)=true)(h:∀K':Act→World→Prop,Shut (∀a' w',S w'→(S w'→Zfe P ops Q S K rest a' w')→K' a' w')→Oper.wp P o a w K' Q):Zfe P ops Q S K ((i,false)::rest) a w:=Zfp ho hw h
end
theorem Zso(x:Nat)(w:World)(hx:W32 x):Calls Tryz.prog 130 #[.int .u32 x,.int .i64 (-16)] w fun e w'=>e=.returned (.int .u32 (rot x 16:Nat))∧w=w':=by
 have H:=Lib.hid (Zm9 (s:=16) hx (by decide));unfold W32 at hx;have e0:bits .and .u64 (IntKind.u64.wrap (-16)) 31=16:=by decide
 have e1:IntKind.u64.wrap (32-16)=16:=by decide
 go_enter Tryz.func130,Tryz.ntmps130
 go_wp2;go_ret;exact⟨congrArg _ (congrArg _ H.out),rfl⟩
theorem Zsp(x:Nat)(w:World)(hx:W32 x):Calls Tryz.prog 130 #[.int .u32 x,.int .i64 (-12)] w fun e w'=>e=.returned (.int .u32 (rot x 12:Nat))∧w=w':=by
 have H:=Lib.hid (Zm9 (s:=12) hx (by decide));unfold W32 at hx;have e0:bits .and .u64 (IntKind.u64.wrap (-12)) 31=20:=by decide
 have e1:IntKind.u64.wrap (32-20)=12:=by decide
 go_enter Tryz.func130,Tryz.ntmps130
 go_wp2;go_ret;exact⟨congrArg _ (congrArg _ H.out),rfl⟩
theorem Zup(x:Nat)(w:World)(hx:W32 x):Calls Tryz.prog 130 #[.int .u32 x,.int .i64 (-8)] w fun e w'=>e=.returned (.int .u32 (rot x 8:Nat))∧w=w':=by
 have H:=Lib.hid (Zm9 (s:=8) hx (by decide));unfold W32 at hx;have e0:bits .and .u64 (IntKind.u64.wrap (-8)) 31=24:=by decide
 have e1:IntKind.u64.wrap (32-24)=8:=by decide
 go_enter Tryz.func130,Tryz.ntmps130
 go_wp2;go_ret;exact⟨congrArg _ (congrArg _ H.out),rfl⟩
theorem Zuq(x:Nat)(w:World)(hx:W32 x):Calls Tryz.prog 130 #[.int .u32 x,.int .i64 (-7)] w fun e w'=>e=.returned (.int .u32 (rot x 7:Nat))∧w=w':=by
 have H:=Lib.hid (Zm9 (s:=7) hx (by decide));unfold W32 at hx;have e0:bits .and .u64 (IntKind.u64.wrap (-7)) 31=25:=by decide
 have e1:IntKind.u64.wrap (32-25)=7:=by decide
 go_enter Tryz.func130,Tryz.ntmps130
 go_wp2;go_ret;exact⟨congrArg _ (congrArg _ H.out),rfl⟩
def encN(n:Nat):Value:=.int .i64 n
theorem Zgm{v:List Nat}(hi:i<v.length):v[i]=at0 v i:=by unfold at0;simp[hi]
def bt(b:List UInt8)(k i:Nat):Nat:=if i<k then(b.getD i 0).toNat else 0
theorem Zn7(b:List UInt8)(k i:Nat):((b.take k).getD i 0).toNat=bt b k i:=by
 unfold bt;rw[List.getD_eq_getElem?_getD,List.getElem?_take];split
 ·rw[List.getD_eq_getElem?_getD]
 ·rfl
theorem Zcz{b:List UInt8}(h:i≠k):bt b (k+1) i=bt b k i:=by
 unfold bt
 by_cases h1:i<k
 ·rw[if_pos h1,if_pos (by omega)]
 ·rw[if_neg h1,if_neg (by omega)]
theorem bt_new{b:List UInt8}(h:k<b.length):bt b (k+1) k=b[k].toNat:=by
 unfold bt;rw[if_pos (by omega)];simp[h]
theorem Ze3{b:List UInt8}(h:k≤i):bt b k i=0:=by unfold bt;rw[if_neg (by omega)]
theorem Zzz(b:List UInt8)(k i:Nat):bt b k i<256:=by
 unfold bt;split
 ·exact UInt8.toNat_lt _
 ·decide
theorem Zer(b:List UInt8)(k j:Nat):Zj8 (b.take k) j=bt b k (4*j)+256*bt b k (4*j+1)+65536*bt b k (4*j+2)+16777216*bt b k (4*j+3):=by
 unfold Zj8;rw[Zn7,Zn7,Zn7,Zn7]
theorem Zfi(b:List UInt8):(words b).length=16:=by simp[words]
theorem Zlt{b:List UInt8}(hj:j<16):at0 (words b) j=Zj8 b j:=by
 unfold at0 words;rw[List.getD_eq_getElem?_getD,List.getElem?_map,List.getElem?_range hj];rfl
theorem Ztz(b:List UInt8)(j:Nat):Zj8 b j<4294967296:=by
 unfold Zj8;have h1:=UInt8.toNat_lt (b.getD (4*j) 0);have h2:=UInt8.toNat_lt (b.getD (4*j+1) 0);have h3:=UInt8.toNat_lt (b.getD (4*j+2) 0);have h4:=UInt8.toNat_lt (b.getD (4*j+3) 0);omega
theorem Ws.words(b:List UInt8):Ws 16 (words b):=by
 refine⟨Zfi b,fun i=>?_⟩
 by_cases hi:i<16
 ·rw[Zlt hi];exact Ztz b i
 ·unfold at0;rw[List.getD_eq_getElem?_getD,List.getElem?_eq_none (by rw[Zfi];omega)];show(0:Nat)<_;decide
theorem Zsa(b:List UInt8)(k:Nat)(hk:k<64):at0 (words (b.take k)) (k/4)<2^(8*(k%4)):=by
 rw[Zlt (by omega),Zer];have h0:=Zzz b k (4*(k/4));have h1:=Zzz b k (4*(k/4)+1);have h2:=Zzz b k (4*(k/4)+2);rw[Ze3 (i:=4*(k/4)+3) (by omega)];have ht:k%4=0∨k%4=1∨k%4=2∨k%4=3:=by omega
 rcases ht with ht|ht|ht|ht
 ·rw[Ze3 (i:=4*(k/4)) (by omega),Ze3 (i:=4*(k/4)+1) (by omega),Ze3 (i:=4*(k/4)+2) (by omega),ht];decide
 ·rw[Ze3 (i:=4*(k/4)+1) (by omega),Ze3 (i:=4*(k/4)+2) (by omega),ht];simp;omega
 ·rw[Ze3 (i:=4*(k/4)+2) (by omega),ht];simp;omega
 ·rw[ht];simp;omega
theorem Zty(b:List UInt8)(k:Nat)(hk:k<64)(hl:k<b.length):at0 (words (b.take k)) (k/4)+b[k].toNat*2^(8*(k%4))=Zj8 (b.take (k+1)) (k/4):=by
 rw[Zlt (by omega),Zer,Zer];have hn:=bt_new hl;have ht:k%4=0∨k%4=1∨k%4=2∨k%4=3:=by omega
 rcases ht with ht|ht|ht|ht
 ·have e:4*(k/4)=k:=by omega
  rw[ht,Zcz (i:=4*(k/4)+1) (by omega),Zcz (i:=4*(k/4)+2) (by omega),Zcz (i:=4*(k/4)+3) (by omega),Ze3 (k:=k) (i:=4*(k/4)) (by omega)];rw[e,hn];omega
 ·have e:4*(k/4)+1=k:=by omega
  rw[ht,Zcz (i:=4*(k/4)) (by omega),Zcz (i:=4*(k/4)+2) (by omega),Zcz (i:=4*(k/4)+3) (by omega),Ze3 (k:=k) (i:=4*(k/4)+1) (by omega)];rw[e,hn];omega
 ·have e:4*(k/4)+2=k:=by omega
  rw[ht,Zcz (i:=4*(k/4)) (by omega),Zcz (i:=4*(k/4)+1) (by omega),Zcz (i:=4*(k/4)+3) (by omega),Ze3 (k:=k) (i:=4*(k/4)+2) (by omega)];rw[e,hn];omega
 ·have e:4*(k/4)+3=k:=by omega
  rw[ht,Zcz (i:=4*(k/4)) (by omega),Zcz (i:=4*(k/4)+1) (by omega),Zcz (i:=4*(k/4)+2) (by omega),Ze3 (k:=k) (i:=4*(k/4)+3) (by omega)];rw[e,hn];omega
theorem Zr9(b:List UInt8)(k:Nat)(hk:k<64)(hl:k<b.length):(words (b.take k)).set (k/4) (at0 (words (b.take k)) (k/4)+b[k].toNat*2^(8*(k%4)))=words (b.take (k+1)):=by
 rw[Zty b k hk hl];refine List.ext_getElem (by simp[Zfi]) (fun j h1 h2=>?_);rw[List.getElem_set];have hj:j<16:=by rw[Zfi]at h2;exact h2
 split
 ·rename_i e;subst e;simp[words]
 ·rename_i e;simp only[words,List.getElem_map,List.getElem_range];rw[Zer,Zer,Zcz (by omega),Zcz (by omega),Zcz (by omega),Zcz (by omega)]
theorem Ztx:words []=List.replicate 16 0:=by decide
theorem Zpt(m c s:Nat)(hs:s=0∨s=8∨s=16∨s=24)(hm:m<2^s)(hc:c<256):bits .or .u32 m (IntKind.u32.wrap ((c:Int)*2^s))=((m+c*2^s:Nat):Int):=by
 rcases hs with rfl|rfl|rfl|rfl
 ·have:m=0:=by simpa using hm
  subst this;rw[IntKind.wrap_u32];have:=(bits_nat .u32 32 (by decide) Zpo 0 c (by decide) (by omega)).2;simp at this⊢;rw[show((c:Int)%4294967296)=c by omega,this]
 ·rw[IntKind.wrap_u32,show((c:Int)*2^8)%4294967296=c*256 by omega,u32_or8 _ _ (by omega) (by omega) (by omega) (by omega) (by omega)];omega
 ·rw[IntKind.wrap_u32,show((c:Int)*2^16)%4294967296=c*65536 by omega,u32_or16 _ _ (by omega) (by omega) (by omega) (by omega) (by omega)];omega
 ·rw[IntKind.wrap_u32,show((c:Int)*2^24)%4294967296=c*16777216 by omega,u32_or24 _ _ (by omega) (by omega) (by omega) (by omega) (by omega)];omega
theorem Zq2{s:List Nat}(h:Ws 8 s):Ws 16 (s++Zc3):=by
 refine⟨by rw[List.length_append,h.1];rfl,fun i=>?_⟩;have hi:=h.2 i;unfold at0 W32 at *;rw[List.getD_eq_getElem?_getD]at *
 by_cases hl:i<s.length
 ·rw[List.getElem?_append_left hl];exact hi
 ·rw[List.getElem?_append_right (by omega)];generalize i-s.length=j
  have:∀j,(Zc3[j]?.getD 0)<4294967296:=fun j=>by
   by_cases hj:j<8
   ·have:∀j:Fin 8,(Zc3[(j:Nat)]?.getD 0)<4294967296:=by decide
    exact this ⟨j,hj⟩
   ·rw[List.getElem?_eq_none (by show 8≤j;omega)];decide
  exact this j
theorem Zuy{r:Nat}(hr:r<10):(Zff.getD r []).length=16:=by
 have:∀r:Fin 10,(Zff.getD r []).length=16:=by decide
 exact this ⟨r,hr⟩
theorem Zyp{r:Nat}(hr:r<10)(hi:i<16):ord r i<16:=by
 have:∀(r:Fin 10) (i:Fin 16),ord r i<16:=by decide +kernel
 exact this ⟨r,hr⟩ ⟨i,hi⟩
theorem Ztw{s v:List Nat}(hs:Ws 8 s)(hv:Ws 16 v):Ws 8 ((List.range 8).map (Zgk s v)):=by
 refine⟨by simp,fun i=>?_⟩
 by_cases hi:i<8
 ·have:at0 ((List.range 8).map (Zgk s v)) i=Zgk s v i:=by unfold at0;simp[hi]
  rw[this];exact Zcs (Zcs (hs.2 i) (hv.2 i)) (hv.2 (i+8))
 ·unfold at0;rw[List.getD_eq_getElem?_getD,List.getElem?_eq_none (by simp;omega)];show(0:Nat)<_;decide
theorem Zr4{s:List Nat}(h:Ws 8 s){many:Nat}(hm:W32 many)(last:Bool):Ws 16 (Zhh s many last):=by
 have h0:=Zq2 h;have h1:=h0.set (i:=12) (Zcs (h0.2 12) hm);unfold Zhh;dsimp only;split
 ·exact h1.set (Zcs (h1.2 14) (by unfold W32;decide))
 ·exact h1
theorem Zl9{s:List Nat}(h:Ws 8 s)(b:List UInt8){many:Nat}(hm:W32 many)(last:Bool):Ws 8 (Zft s b many last):=Ztw h ((Zr4 h hm last).roundsTo _ _)
theorem Zy0:Ws 8 init8:=by
 have:Ws 8 Zc3:=⟨rfl,fun i=>by
  by_cases hi:i<8
  ·have:∀i:Fin 8,at0 Zc3 i<4294967296:=by decide
   exact this ⟨i,hi⟩
  ·unfold at0;rw[List.getD_eq_getElem?_getD,List.getElem?_eq_none (by show 8≤i;omega)];show(0:Nat)<_
   decide⟩
 exact this.set (Zcs (this.2 0) (by unfold W32;decide))
theorem RVec.part{n:Nat}(hr:RVec enc bs h (.slice A n c) xs){lo m:Nat}(hm:lo+m≤xs.length):RVec enc bs h (.slice (A.map fun x=>x.add lo) m (c-lo)) ((xs.drop lo).take m):=by
 obtain⟨A',c',e,h1,h2,h3,h4,h5⟩:=hr;injection e with e1 e2 e3;subst e1 e2 e3;have hl:((xs.drop lo).take m).length=m:=by simp;omega
 refine⟨_,_,by rw[hl],by omega,Nat.le_trans (Nat.sub_le _ _) h2,?_,?_,fun hp=>?_⟩
 ·rw[hl];exact Nat.le_trans (Nat.mul_le_mul_right _ (by omega)) h3
 ·intro hA;cases A with
  |none=>have:=h4 rfl;omega
  |some a=>simp at hA
 ·obtain⟨b,o,ea,hc⟩:=h5 (by omega);subst ea;refine⟨b,o+lo,by simp[Zbs],fun i hi=>?_⟩;rw[hl]at hi;have:=hc (lo+i) (by omega);rw[show o+lo+i=o+(lo+i) by omega,this];simp
theorem Zpn(b:List UInt8)(hk:64*k≤100000):Ws 8 (Zem b k):=by
 induction k with
 |zero=>exact Zy0
 |succ k ih =>
  rw[Zig];exact Zl9 (ih (by omega)) _ (by unfold W32;omega) _
def encU(n:Nat):Value:=.int .u32 n
theorem Zrt(n:Nat):(encU n).oneCell'=true:=rfl
structure Tabs (h:View):Prop where
 first:∀i,i<8→h ⟨0,i,none⟩=some (encU (at0 Zc3 i))
 order:∀i,i<160→h ⟨1,i,none⟩=some (encN (at0 Zff.flatten i))
 lanes:∀i,i<32→h ⟨2,i,none⟩=some (encN (at0 ((List.range 8).map fun i=>[(lane i).1,(lane i).2.1,(lane i).2.2.1,(lane i).2.2.2]).flatten i))
theorem Tabs.mono{h':View}(ht:Tabs h)(hle:VLe h h'):Tabs h':=⟨fun i hi=>hle _ _ (ht.first i hi),fun i hi=>hle _ _ (ht.order i hi),fun i hi=>hle _ _ (ht.lanes i hi)⟩
def Zyq:Value:=.agg (Zff.flatten.map encN).toArray
def Zf1(i:Nat):List Nat:=[(lane i).1,(lane i).2.1,(lane i).2.2.1,(lane i).2.2.2]
def Zrn:Value:=.agg ((((List.range 8).map Zf1).flatten).map encN).toArray
def Zrl(r:Nat):List Nat:=Zff.getD r []
theorem Zvf(k:Nat)(hk:k<10)(w:World):(Instr.index 202 Zyq (.int .i64 k)).run Tryz.prog w=.ok (.agg ((Zrl k).map encN).toArray) w :=
 match k,hk with
 |0,_=>by kernel_rfl
 |1,_=>by kernel_rfl
 |2,_=>by kernel_rfl
 |3,_=>by kernel_rfl
 |4,_=>by kernel_rfl
 |5,_=>by kernel_rfl
 |6,_=>by kernel_rfl
 |7,_=>by kernel_rfl
 |8,_=>by kernel_rfl
 |9,_=>by kernel_rfl
theorem Zs5(k:Nat)(hk:k<8)(w:World):(Instr.index 204 Zrn (.int .i64 k)).run Tryz.prog w=.ok (.agg ((Zf1 k).map encN).toArray) w :=
 match k,hk with
 |0,_=>by kernel_rfl
 |1,_=>by kernel_rfl
 |2,_=>by kernel_rfl
 |3,_=>by kernel_rfl
 |4,_=>by kernel_rfl
 |5,_=>by kernel_rfl
 |6,_=>by kernel_rfl
 |7,_=>by kernel_rfl
theorem Zhp{ad:Addr}{n:Nat}(cs:List Value)(hv:v=.agg cs.toArray)(ho:o.op=.load t x)(hx:a.eval x=.pointer (some ad))(hagg:(isAgg t).run P w=.ok true w)(hi:(P.info? t).map (·.size)=some n)(hl:cs.length=n)(hc:∀j v,cs[j]?=some v→w.cell? (ad.add j)=some v)(h:K (a.put o.dst v) w):o.wp P a w K Q:=by
 subst hv;obtain⟨i,hi',rfl⟩:=Option.map_eq_some_iff.1 hi
 have hrun:(loadVar t ad).run P w=.ok (.agg cs.toArray) w:=by
  have:=run_loadCells_list (P:=P) w ad cs hc;rw[hl]at this;simp[loadVar,hagg,sizeOf,typeInfo,hi',this]
 have hld:(Instr.loadAt t (.pointer (some ad))).run P w=.ok (.agg cs.toArray) w:=by
  simp[Instr.loadAt,Instr.sureAddr,hrun]
 unfold Oper.wp;simp[execOp,ho,hx,hld,Result.andThen,Oper.upon];exact h
theorem Zbd{ad:Addr}{n:Nat}(cs:List Value)(hv:v=.agg cs.toArray)(hgd:o.guard=none)(ho:o.op=.load t x)(hx:a.eval x=.pointer (some ad))(hagg:(isAgg t).run P w=.ok true w)(hi:(P.info? t).map (·.size)=some n)(hl:cs.length=n)(hc:∀j v,cs[j]?=some v→w.cell? (ad.add j)=some v)(h:wpList P ops Q rest (a.put o.dst v) w):wpList P ops Q (o::rest) a w :=
 wpList_plain hgd fun _ hK=>Zhp cs hv ho hx hagg hi hl hc (hK _ _ h)
theorem Zj7(d s:Operand)(dT sT:TypeId){elem:TypeId}{enc:Nat→Value}{dc g2 o2 sc n:Nat}{xs ys:List Nat}(ho:o.op=.call {callee:=.builtin .copy,args:=#[d,s],argTypes:=#[dT,sT] })(hu:P.underlying dT=some (.slice elem))(hsz:(P.info? elem).map (·.size)=some 1)(hd:a.eval d=.slice (some ⟨g,off,none⟩) n dc)(hs:a.eval s=.slice (some ⟨g2,o2,none⟩) n sc)(hb:Arr w g te enc xs)(hy:ys.length=n)(hfit:off+n≤xs.length)(hsrc:∀j (hj:j<ys.length),w.cell? ⟨g2,o2+j,none⟩=some (enc ys[j]))(h1:∀x,(enc x).oneCell'=true)(h:∀w',Arr w' g te enc (xs.take off++(ys++xs.drop (off+n)))→w.grownBy w' (some g)→K (a.put o.dst (goInt n)) w'):o.wp P a w K Q:=by
 subst hy
 have hrun:=run_copy_row (P:=P) w dT sT o.type elem g off ys.length dc ⟨g2,o2,none⟩ ys.length sc (xs.map enc).toArray te (ys.map enc) hu hsz hb (by simp) (fun j v hj=>by
  have hjl:j<ys.length:=by have:=(List.getElem?_eq_some_iff.1 hj).1;simpa using this
  rw[Zbs,hsrc j hjl]
  simpa[hjl]using hj) (by simpa using hfit) (fun v hv=>by obtain⟨x,_,rfl⟩:=List.mem_map.1 hv;exact h1 x)
 obtain⟨h2,h3⟩:=Zlq hb ((xs.take off++(ys++xs.drop (off+ys.length))).map enc).toArray
 have e:((xs.map enc).toArray.toList.take off++ys.map enc++(xs.map enc).toArray.toList.drop (off+(ys.map enc).length)).toArray=((xs.take off++(ys++xs.drop (off+ys.length))).map enc).toArray:=by
  simp[List.map_append]
 rw[e]at hrun;have h:=fun w'=>h w'
 unfold Arr at h;obtain⟨Z,hZ⟩:∃Z,((xs.take off++(ys++xs.drop (off+ys.length))).map enc).toArray=Z:=⟨_,rfl⟩;rw[hZ]at hrun h2 h3 h;clear e hZ;unfold Oper.wp;simp[execOp,ho,resolve,invoke,builtin,hd,hs,hrun,Result.andThen,Oper.upon];exact h _ h2 h3
end Go.Proofs.YtinibgklgehdpaaGreatDoor
