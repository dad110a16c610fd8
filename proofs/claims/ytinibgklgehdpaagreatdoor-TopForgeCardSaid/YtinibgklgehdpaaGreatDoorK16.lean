/- A part of what the last text stands on. -/
import Derived.Deep.DeepCutAuto
import Derived.Deep.CutBlock
import Derived.StringKeys
import Derived.Maps.OwnSet
import Derived.Maps.AppendAt
import Derived.Test.YtinibgklgehdpaaGreatDoorK02
import Derived.Test.YtinibgklgehdpaaGreatDoorK03
import Derived.Test.YtinibgklgehdpaaGreatDoorK04
import Derived.Test.YtinibgklgehdpaaGreatDoorK07
import Derived.Test.YtinibgklgehdpaaGreatDoorK08
import Derived.Test.YtinibgklgehdpaaGreatDoorK09
import Derived.Test.YtinibgklgehdpaaGreatDoorK10
import Derived.Test.YtinibgklgehdpaaGreatDoorK13
import Derived.Test.YtinibgklgehdpaaGreatDoorK15
namespace Go.Proofs.YtinibgklgehdpaaGreatDoor
open Go.ChangeShapes Go.WideShapes Go.ChangeAt Go.RowKit Qa Qb Qc
set_option linter.all false
set_option maxHeartbeats 20000000
set_option maxRecDepth 100000
variable{P:Program}{w w' W:World}{a:Act}{Q:Exit→Act→World→Prop}{K:Act→World→Prop}{u:Value}{cs:Array Value}{h:View}{e t:TypeId}{k i g off sz b c:Nat}{x y:Operand}{α:Type}{xs:List α}{R:View→List Value→α→Prop}
def RBat(h:View)(cs:List Value)(x:Bat):Prop:=∃v,cs=[.int .i64 x.author,.int .i64 x.number,v]∧RTexts h v x.txs∧∀s∈x.txs,s.size≤140737488355328
theorem RBat.mono:Mono RBat:=fun h h' cs x ⟨v,e,h1,h2⟩ hle=>⟨v,e,h1.mono hle,h2⟩
abbrev RBats:=RSl 3 RBat 40
theorem Zqs:Elem Tryz.prog 39 53 3 40:=Znz (z:=.agg #[.int .i64 0,.int .i64 0,.slice none 0 0]) Tryz.underlying39 (by kernel_rfl) rfl (by decide)
theorem RBats.at{h:View}{A:Option Addr}{n c:Nat}{xs:List Bat}(hr:RBats h (.slice A n c) xs):n=xs.length∧n≤c∧n*40≤140737488355328∧∀k (hk:k<xs.length),∃b o v,A=some ⟨b,o,none⟩∧h ⟨b,o+k*3,none⟩=some (.int .i64 xs[k].author)∧h ⟨b,o+k*3+1,none⟩=some (.int .i64 xs[k].number)∧h ⟨b,o+k*3+2,none⟩=some v∧RTexts h v xs[k].txs∧∀s∈xs[k].txs,s.size≤140737488355328:=by
 obtain⟨A',c',e,h1,_,h2,_,h3⟩:=hr;injection e with e1 e2 e3;subst e1 e2 e3;refine⟨rfl,h1,h2,fun k hk=>?_⟩;obtain⟨b,o,ea,hc⟩:=h3 (by omega);obtain⟨cs,hl,hcs,v,rfl,hb,hs⟩:=hc k hk;have c0:=hcs 0 (by omega);have c1:=hcs 1 (by omega);have c2:=hcs 2 (by omega);simp at c0 c1 c2;exact⟨b,o,v,ea,c0,c1,c2,hb,hs⟩
def hN(k:Int):Bool:=k==1||k==2||k==3||k==7||k==8||k==9
def hP(k:Int):Bool:=inB k 4 7
def hT(k:Int):Bool:=k==1||k==9
def actF(k n p:Int)(s:ByteArray):Int :=
 if !inB k 1 10 then 3 else if hN k&& !inB n 0 3||hP k&& !inB p 0 400000 then 2 else if hT k&&decide (4000<s.size)then 1
 else if !hN k&&n != 0|| !hP k&&p != 0|| !hT k&& !(s.toList==[])then 4 else 0
theorem has_any(k:Int)(w:World):Calls Tryz.prog 82 #[.int .i64 k] w fun e w'=>e=.returned (.tuple #[.bool (hN k),.bool (hP k),.bool (hT k)])∧w=w':=by
 cases h1:(k==1);cases h9:(k==9);cases h2:(k==2);cases h3:(k==3);cases h8:(k==8);cases h4:(k==4);cases h5:(k==5);cases h6:(k==6);cases h7:(k==7)
 all_goals
  have Hq:Hid (hN k=(k==1||k==2||k==3||k==7||k==8||k==9)∧hP k=inB k 4 7∧hT k=(k==1||k==9)):=⟨rfl,rfl,rfl⟩
  go_enter Tryz.func82,Tryz.ntmps82
  go_wp2;go_ret3;exact⟨by obtain⟨q1,q2,q3⟩:=Hq.out;rw[q1,q2,q3];simp_all[inB];try omega,rfl⟩
namespace Fl
structure Nd where
 me:Int
 up:Bool
 nx:Int
 txs:List ByteArray
 bats:List Bat
 digs:List (List UInt8)
 table:List Slot
 dag:List Crt
 own:Option Hdr
 mine:List UInt8
 voters:List Int
 tl:List UInt8
 ty:Int
 out:List Msg
 turn:Int
structure Ft where
 rogue:Int
 nodes:List Nd
 signs:List Sign
 away:List Msg
 codes:List Int
structure At where
 kind:Int
 node:Int
 pick:Int
 text:ByteArray
def batM(b:Bat):Msg:={ msg0 with kind:=1,bat:=b }
def offM(h:Hdr):Msg:={ msg0 with kind:=2,hdr:=h }
def votM(s:Slot):Msg:={ msg0 with kind:=3,slt:=s }
def prfM(c:Crt):Msg:={ msg0 with kind:=4,crt:=c }
def wntM(r:Int):Msg:={ msg0 with kind:=5,round:=r }
def bdR(b:Bat):List UInt8:=Zto b.author b.number b.txs
def hdR(h:Hdr):List UInt8:=Zi4 h.author h.round h.batches h.parents
def fresh(me:Int):Nd:=⟨me,true,1,[],[],[],[],[],none,[],[],[],0,[],0⟩
def Zfg(n:Nd)(m:Msg):Int:=appE n.tl n.ty m
def kept(n:Nd)(m:Msg):Nd:={ n with tl:=appL n.tl n.ty m,ty:=appA n.tl n.ty m }
def keep(n:Nd)(m:Msg):Nd×Bool:=if Zfg n m=0 then(kept n m,true)else(n,false)
def send(n:Nd)(tw:Int)(m:Msg):Nd:=if n.out.length<400 then {n with out:=n.out++[{ m with src:=n.me,dst:=tw }] } else n
def Zcm(m:Msg)(n:Nd)(tw:Int):Nd:=if tw≠n.me then send n tw m else n
def all4:List Int:=[0,1,2,3]
def tell(n:Nd)(m:Msg):Nd:=all4.foldl (Zcm m) n
def held(n:Nd)(d:List UInt8):Int:=idxI (·==d) n.digs
def put(n:Nd)(b:Bat):Nd:={ n with bats:=n.bats++[b],digs:=n.digs++[bdR b] }
def store(n:Nd)(b:Bat)(write:Bool):Nd×Bool :=
 if 0≤held n (bdR b)∨n.bats.length=800 then(n,false)
 else if write then(if Zfg n (batM b)=0 then(put (kept n (batM b)) b,true)else(n,false))else(put n b,true)
def Zuk(x b:Bat):Bool:=x.author==b.author&&(x.number==b.number&&(x.txs.map fun s=>s.toList)==b.txs.map fun s=>s.toList)
def has(n:Nd)(b:Bat):Bool:=n.bats.any fun x=>Zuk x b
def insert(n:Nd)(c:Crt)(write:Bool):Nd×Bool :=
 if insE n.dag c≠0 then(n,false)
 else if write then(if Zfg n (prfM c)=0 then({ kept n (prfM c)with dag:=insL n.dag c },true)else(n,false))else({ n with dag:=insL n.dag c },true)
def Zd5(n:Nd)(a r:Int):Bool:=n.dag.any (Zew a r)
def vote(n:Nd)(h:Hdr):Nd×Bool :=
 if Ze2 n.table h≠0 then(n,false)
 else if n.table.length<(Zc4 n.table h).length then(if Zfg n (votM (Zcy n.table h))=0 then({ kept n (votM (Zcy n.table h))with table:=Zc4 n.table h },true)else(n,false))
 else({ n with table:=Zc4 n.table h },true)
def signed(signs:List Sign)(rogue:Int)(n:Int)(s:Slot):Bool:=Zir signs rogue ⟨n,s⟩
def offer(signs:List Sign)(rogue:Int)(n:Nd)(h:Hdr):Nd :=
 if h.author=n.me∨signed signs rogue h.author ⟨h.author,h.round,hdR h⟩=false then n
 else if Zqc n.dag h≠0∨0<(Zu4 n.dag h).length then n
 else if h.batches.any (fun b=>decide (held n b<0))then n
 else if (vote n h).2 then send (vote n h).1 h.author (votM (Zcy n.table h))else(vote n h).1
def Zdh(l:List Int):List Int:=l.mergeSort (fun a b=>decide (a≤b))
def count(signs:List Sign)(rogue:Int)(n:Nd)(src:Int)(s:Slot):Nd :=
 match n.own with
 |none=>n
 |some h =>
  if s.author≠n.me∨s.round≠h.round∨s.digest≠n.mine then n
  else if Zd5 n n.me h.round∨src∈n.voters∨signed signs rogue src s=false then n
  else if (n.voters++[src]).length<3 then {n with voters:=n.voters++[src] }
  else if (insert {n with voters:=n.voters++[src] } ⟨h,Zdh (n.voters++[src])⟩ true).2
   then tell (insert {n with voters:=n.voters++[src] } ⟨h,Zdh (n.voters++[src])⟩ true).1 (prfM ⟨h,Zdh (n.voters++[src])⟩)
   else(insert {n with voters:=n.voters++[src] } ⟨h,Zdh (n.voters++[src])⟩ true).1
def leC(a b:Crt):Bool:=if a.hdr.round≠b.hdr.round then decide (a.hdr.round≤b.hdr.round)else decide (a.hdr.author≤b.hdr.author)
def sortC(l:List Crt):List Crt:=l.mergeSort leC
def sendB(tw:Int)(n:Nd)(d:List UInt8):Nd:=if 0≤held n d then(match n.bats[(held n d).toNat]? with|some b=>send n tw (batM b)|none=>n)else n
def Zg7(tw:Int)(n:Nd)(c:Crt):Nd:=send (c.hdr.batches.foldl (sendB tw) n) tw (prfM c)
def Zrd(n:Nd)(round:Int):List Crt:=(sortC (n.dag.filter fun c=> !decide (c.hdr.round<round))).take 8
def serve(n:Nd)(tw round:Int):Nd:=if tw=n.me then n else(Zrd n round).foldl (Zg7 tw) n
def come1(signs:List Sign)(rogue:Int)(n:Nd)(m:Msg):Nd :=
 if m.kind=1 then(store n m.bat true).1
 else if m.kind=2 then offer signs rogue n m.hdr
 else if m.kind=3 then count signs rogue n m.src m.slt
 else if m.kind=4 then(if Zl4 signs rogue m.crt=0 then(insert n m.crt true).1 else n)
 else if m.kind=5 then serve n m.src m.round
 else n
def Zan(f:Ft)(i:Int):Nd:=(f.nodes[i.toNat]?).getD (fresh 0)
def Za1(f:Ft)(i:Int)(n:Nd):Ft:={ f with nodes:=f.nodes.set i.toNat n }
def come(f:Ft)(tw:Int)(m:Msg):Ft:=if (Zan f tw).up=false∨tw=f.rogue then f else Za1 f tw (come1 f.signs f.rogue (Zan f tw) m)
def usedB(n:Nd)(d:List UInt8):Bool:=n.dag.any fun c=>c.hdr.author==n.me&&c.hdr.batches.any (·==d)
def Ze8(n:Nd)(o:List (List UInt8))(p:Bat×List UInt8):List (List UInt8):=if p.1.author=n.me∧usedB n p.2=false∧o.length<3 then o++[p.2]else o
def Zxk(n:Nd):List (List UInt8):=(n.bats.zip n.digs).foldl (Ze8 n) []
def Zd1(n:Nd)(round:Int):Hdr:=⟨n.me,round,Zxk n,if 1<round then digV n.dag (round-1)else []⟩
def propose(n:Nd)(round:Int):Nd :=
 if Ze2 n.table (Zd1 n round)≠0∨Zfg n (offM (Zd1 n round))≠0 then n
 else tell {kept n (offM (Zd1 n round))with table:=Zc4 n.table (Zd1 n round),own:=some (Zd1 n round),mine:=(Zcy n.table (Zd1 n round)).digest,voters:=[n.me] } (offM (Zd1 n round))
def Zeg(h:Hdr)(n:Nd)(tw:Int):Nd:=if tw∈n.voters then n else send (h.batches.foldl (sendB tw) n) tw (offM h)
def again(n:Nd):Nd:=match n.own with|none=>n|some h=>all4.foldl (Zeg h) n
def Zm6(n:Nd)(w:Int)(c:Crt):Int:=if c.hdr.batches.any (fun d=>decide (held n d<0))then min w c.hdr.round else w
def wanted(n:Nd)(round:Int):Int:=n.dag.foldl (Zm6 n) (max 1 (round-1))
def Zh1(n:Nd):Bat:=⟨Zov n.nx n.txs n.me,Zou n.nx n.txs n.me,Zmm n.nx n.txs n.me⟩
def work1(n:Nd):Nd :=
 if Zjo n.nx n.txs n.me=0∧((store n (Zh1 n) true).2∨has (store n (Zh1 n) true).1 (Zh1 n))
 then tell {(store n (Zh1 n) true).1 with nx:=Zg8 n.nx n.txs n.me,txs:=Zdj n.nx n.txs n.me } (batM (Zh1 n))
 else if Zjo n.nx n.txs n.me=0 then(store n (Zh1 n) true).1 else n
def work2(n:Nd)(round:Int):Nd :=
 match n.own with
 |none=>propose n round
 |some h=>if h.round<round then propose n round else if Zd5 n n.me h.round=false then again n else n
def Zf5(me turn:Int):Int:=if (turn+1)%4=me then((turn+1)%4+1)%4 else(turn+1)%4
def work3(n:Nd)(round:Int):Nd:=send {n with turn:=Zf5 n.me n.turn } (Zf5 n.me n.turn) (wntM (wanted n round))
def work(n:Nd):Nd:=work3 (work2 (work1 n) (rndV (work1 n).dag)) (rndV (work1 n).dag)
def Zml(me:Int)(m:Msg):Option Sign :=
 if m.kind=2 then some ⟨me,⟨m.hdr.author,m.hdr.round,hdR m.hdr⟩⟩else if m.kind=3 then some ⟨me,m.slt⟩else none
def Zc6(me:Int)(p:List Sign×List Msg)(m:Msg):List Sign×List Msg :=
 ((match Zml me m with|some s=>addL p.1 s|none=>p.1),if p.2.length<400 then p.2++[m]else p.2)
def syncN(n:Nd):Nd:={ n with ty:=if Zba n.tl n.ty then n.tl.length else 0,tl:=if Zba n.tl n.ty then n.tl else [],out:=[] }
def sync(f:Ft)(i:Int):Ft :=
 let n:=Zan f i
 let p:=n.out.foldl (Zc6 n.me) (f.signs,f.away)
 {Za1 f i (syncN n)with signs:=p.1,away:=p.2 }
def recS(n:Nd)(m:Msg):Nd :=
 if m.kind=1 then(if m.bat.author=n.me then {(store n m.bat false).1 with nx:=max (store n m.bat false).1.nx (m.bat.number+1) } else(store n m.bat false).1)
 else if m.kind=2 then {n with own:=some m.hdr,voters:=[n.me],mine:=hdR m.hdr,table:=if Ze2 n.table m.hdr=0 then Zc4 n.table m.hdr else n.table }
 else if m.kind=3 then {n with table:=n.table++[m.slt] }
 else if m.kind=4 then(insert n m.crt false).1
 else n
def crL(l:List UInt8)(a keep:Int):List UInt8:=if Zba l a∧0≤keep then l.take (Zds a keep l.length)else []
def crA(l:List UInt8)(a keep:Int):Int:=if Zba l a∧0≤keep then Zds a keep l.length else 0
def crash(n:Nd)(me keep:Int):Nd :=
 let l:=crL n.tl n.ty keep
 let a:=crA n.tl n.ty keep
 (rcvM l a).foldl recS {fresh me with up:=false,tl:=rcvD l a,ty:=rcvY l a }
def act(f:Ft)(a:At):Ft :=
 let n:=Zan f a.node
 if a.kind=8 then Za1 f a.node {n with up:=true }
 else if n.up=false then f
 else if a.kind=2 then Za1 f a.node (work n)
 else if a.kind=3 then sync f a.node
 else if a.kind=7 then Za1 f a.node (crash n a.node a.pick)
 else f
def Zkc(f:Ft)(a:At):Int:=let n:=Zan f a.node;if n.up=false∨n.me=f.rogue then 12 else addF n.nx n.txs a.text
def submit(f:Ft)(a:At):Ft :=
 let n:=Zan f a.node
 if Zkc f a=0 then Za1 f a.node {n with txs:=n.txs++[a.text] } else f
def pick(f:Ft)(p:Int):Nat:=(p%(f.away.length:Int)).toNat
def doA(f:Ft)(a:At):Ft :=
 if a.kind=1 then {submit f a with codes:=f.codes++[Zkc f a] }
 else if a.kind=4∨a.kind=5 then
  (match f.away[pick f a.pick]? with
   |none=>f
   |some m=>if a.kind=4 then come {f with away:=f.away.eraseIdx (pick f a.pick) } m.dst m else {f with away:=f.away.eraseIdx (pick f a.pick) })
 else if a.kind=6 then
  (match f.away[pick f a.pick]? with
   |none=>f
   |some m=>if f.away.length<400 then {f with away:=f.away++[m] } else f)
 else if a.kind=10 then f.away.foldl (fun g m=>come g m.dst m) {f with away:=[] }
 else if a.kind=9 then(if decE (Zca a.text)=0∧0≤f.rogue then come f a.node (decM (Zca a.text))else f)
 else if a.node≠f.rogue then act f a else f
def start(rogue:Int):Ft:=⟨rogue,[fresh 0,fresh 1,fresh 2,fresh 3],[],[],[]⟩
def actE(a:At):Int:=actF a.kind a.node a.pick a.text
def run(rogue:Int)(l:List At):Ft:=l.foldl doA (start rogue)
def runE(rogue:Int)(l:List At):Int:=if !inB rogue (-1) 3 then 2 else if 3000<l.length then 1 else(match l.find? (fun a=>actE a != 0)with|some a=>actE a|none=>0)
structure Vw where
 up:Bool
 round:Int
 certs:List Crt
 bats:List Bat
 votes:List Slot
 pool:List ByteArray
def view(n:Nd):Vw:=⟨n.up,rndV n.dag,n.dag,n.bats,n.table,n.txs⟩
def vw0:Vw:=⟨false,0,[],[],[],[]⟩
structure Oc where
 nodes:List Vw
 signs:List Sign
 away:Int
 codes:List Int
def Zhg(f:Ft):List Vw:=all4.map fun i=>if i=f.rogue then vw0 else view (Zan f i)
def Zix(f:Ft):Oc:=⟨Zhg f,f.signs,f.away.length,f.codes⟩
end Fl
theorem Zfj{ev:Operand→Value}{o:Oper}(ty:TypeId)(x:Operand)(ho:o.op=.load ty x)(g:Nat)(hx:ev x=.pointer (some ⟨g,0,none⟩))(t:TypeId)(cs:Array Value)(fr:Nat×Nat)(d:TypeDesc)(hg:w.heap[g]?=some (.cells cs t fr))(hu:P.underlying ty=some d)(hd:(match d with|.struct _|.array _ _=>true|_=>false)=true)(hi:(P.info? ty).map (·.size)=some cs.size):(execOp ev o).run P w=.ok (.value (.agg cs)) w:=by
 unfold execOp;simp only[ho,hx,Instr.loadAt,Instr.sureAddr,Sem.run_bind,Sem.run_pure,Result.andThen_ok,run_loadVar_row w g t ty cs fr d hg hu hd hi]
namespace Fl
def RI:View→List Value→Int→Prop:=fun _ cs x=>cs=[.int .i64 x]
theorem RI.mono:Mono RI:=fun _ _ _ _ h _=>h
def RMsgZ(h:View)(cs:List Value)(m:Msg):Prop:=RMsgR h cs m∧∀s∈m.bat.txs,s.size≤140737488355328
theorem RMsgZ.mono:Mono RMsgZ:=fun _ _ _ _ h hle=>⟨RMsgR.mono _ _ _ _ h.1 hle,h.2⟩
def ROwn(h:View)(v:Value):Option Hdr→Prop
 |none=>v=.pointer none
 |some x=>∃b vb vp,v=.pointer (some ⟨b,0,none⟩)∧h ⟨b,0,none⟩=some (.int .i64 x.author)∧h ⟨b,1,none⟩=some (.int .i64 x.round)∧h ⟨b,2,none⟩=some vb∧h ⟨b,3,none⟩=some vp∧RDigs h vb x.batches∧RDigs h vp x.parents
theorem ROwn.mono{h':View}{v:Value}{x:Option Hdr}(r:ROwn h v x)(hle:VLe h h'):ROwn h' v x:=by
 cases x with
 |none=>exact r
 |some x =>
  obtain⟨b,vb,vp,e,h0,h1,h2,h3,h4,h5⟩:=r;exact⟨b,vb,vp,e,hle _ _ h0,hle _ _ h1,hle _ _ h2,hle _ _ h3,h4.mono RDig.mono hle,h5.mono RDig.mono hle⟩
structure Vals where
 tx:Value
 ba:Value
 di:Value
 ta:Value
 da:Value
 ow:Value
 mi:Value
 vo:Value
 tp:Value
 ou:Value
def ndC(n:Nd)(v:Vals):List Value:=[.int .i64 n.me,.bool n.up,.int .i64 n.nx,v.tx,v.ba,v.di,v.ta,v.da,v.ow,v.mi,v.vo,v.tp,.int .i64 n.ty,v.ou,.int .i64 n.turn]
structure NdR (o:Own) (w:World) (i:Nat) (n:Nd) (v:Vals):Prop where
 tx:RTexts (Zas o w) v.tx n.txs
 small:∀s∈n.txs,s.size≤140737488355328
 ba:Row o (i,1) 3 RBat 53 w v.ba n.bats
 di:Row o (i,2) 1 RDig 54 w v.di n.digs
 ta:Row o (i,3) 3 RSlot 61 w v.ta n.table
 da:RCrts (Zas o w) v.da n.dag
 ow:ROwn (Zas o w) v.ow n.own
 mi:Zao (Zas o w) v.mi n.mine
 vo:Row o (i,4) 1 RI 3 w v.vo n.voters
 tp:Zao (Zas o w) v.tp n.tl
 ou:Row o (i,5) 19 RMsgZ 66 w v.ou n.out
section
variable {T T':Nat×Nat→Prop} {o o' o2:Own} {w w' w2:World} {i:Nat} {n:Nd} {v:Vals}
theorem NdR.fr(h:NdR o w i n v)(f:Fr T o w o' w')(hT:∀k,¬T (i,k)):NdR o' w' i n v :=
 ⟨h.tx.mono f.view,h.small,h.ba.fr RBat.mono f (hT _),h.di.fr RDig.mono f (hT _),h.ta.fr RSlot.mono f (hT _),h.da.mono RCrt.mono f.view,h.ow.mono f.view,h.mi.mono f.view,h.vo.fr RI.mono f (hT _),h.tp.mono f.view,h.ou.fr RMsgZ.mono f (hT _)⟩
theorem NdR.ou'(h:NdR o w i n v)(f:Fr (fun t=>t=(i,5)) o w o' w'){v':Value}{xs:List Msg}(r:Row o' (i,5) 19 RMsgZ 66 w' v' xs):NdR o' w' i {n with out:=xs } {v with ou:=v' } :=
 ⟨h.tx.mono f.view,h.small,h.ba.fr RBat.mono f (by simp),h.di.fr RDig.mono f (by simp),h.ta.fr RSlot.mono f (by simp),h.da.mono RCrt.mono f.view,h.ow.mono f.view,h.mi.mono f.view,h.vo.fr RI.mono f (by simp),h.tp.mono f.view,r⟩
theorem NdR.ba'(h:NdR o w i n v)(f:Fr (fun t=>t=(i,1)) o w o' w'){v':Value}{xs:List Bat}(r:Row o' (i,1) 3 RBat 53 w' v' xs):NdR o' w' i {n with bats:=xs } {v with ba:=v' } :=
 ⟨h.tx.mono f.view,h.small,r,h.di.fr RDig.mono f (by simp),h.ta.fr RSlot.mono f (by simp),h.da.mono RCrt.mono f.view,h.ow.mono f.view,h.mi.mono f.view,h.vo.fr RI.mono f (by simp),h.tp.mono f.view,h.ou.fr RMsgZ.mono f (by simp)⟩
theorem NdR.di'(h:NdR o w i n v)(f:Fr (fun t=>t=(i,2)) o w o' w'){v':Value}{xs:List (List UInt8)}(r:Row o' (i,2) 1 RDig 54 w' v' xs):NdR o' w' i {n with digs:=xs } {v with di:=v' } :=
 ⟨h.tx.mono f.view,h.small,h.ba.fr RBat.mono f (by simp),r,h.ta.fr RSlot.mono f (by simp),h.da.mono RCrt.mono f.view,h.ow.mono f.view,h.mi.mono f.view,h.vo.fr RI.mono f (by simp),h.tp.mono f.view,h.ou.fr RMsgZ.mono f (by simp)⟩
theorem NdR.ta'(h:NdR o w i n v)(f:Fr (fun t=>t=(i,3)) o w o' w'){v':Value}{xs:List Slot}(r:Row o' (i,3) 3 RSlot 61 w' v' xs):NdR o' w' i {n with table:=xs } {v with ta:=v' } :=
 ⟨h.tx.mono f.view,h.small,h.ba.fr RBat.mono f (by simp),h.di.fr RDig.mono f (by simp),r,h.da.mono RCrt.mono f.view,h.ow.mono f.view,h.mi.mono f.view,h.vo.fr RI.mono f (by simp),h.tp.mono f.view,h.ou.fr RMsgZ.mono f (by simp)⟩
theorem NdR.vo'(h:NdR o w i n v)(f:Fr (fun t=>t=(i,4)) o w o' w'){v':Value}{xs:List Int}(r:Row o' (i,4) 1 RI 3 w' v' xs):NdR o' w' i {n with voters:=xs } {v with vo:=v' } :=
 ⟨h.tx.mono f.view,h.small,h.ba.fr RBat.mono f (by simp),h.di.fr RDig.mono f (by simp),h.ta.fr RSlot.mono f (by simp),h.da.mono RCrt.mono f.view,h.ow.mono f.view,h.mi.mono f.view,r,h.tp.mono f.view,h.ou.fr RMsgZ.mono f (by simp)⟩
end
section
variable {o:Own} {w:World} {i:Nat} {n:Nd} {v:Vals}
theorem NdR.setTp(h:NdR o w i n v){xs:List UInt8}{y:Int}(r:Zao (Zas o w) u xs):NdR o w i {n with tl:=xs,ty:=y } {v with tp:=u }:=⟨h.tx,h.small,h.ba,h.di,h.ta,h.da,h.ow,h.mi,h.vo,r,h.ou⟩
theorem NdR.setDa(h:NdR o w i n v){xs:List Crt}(r:RCrts (Zas o w) u xs):NdR o w i {n with dag:=xs } {v with da:=u }:=⟨h.tx,h.small,h.ba,h.di,h.ta,r,h.ow,h.mi,h.vo,h.tp,h.ou⟩
theorem NdR.setOw(h:NdR o w i n v){x:Option Hdr}(r:ROwn (Zas o w) u x):NdR o w i {n with own:=x } {v with ow:=u }:=⟨h.tx,h.small,h.ba,h.di,h.ta,h.da,r,h.mi,h.vo,h.tp,h.ou⟩
theorem NdR.setMi(h:NdR o w i n v){xs:List UInt8}(r:Zao (Zas o w) u xs):NdR o w i {n with mine:=xs } {v with mi:=u }:=⟨h.tx,h.small,h.ba,h.di,h.ta,h.da,h.ow,r,h.vo,h.tp,h.ou⟩
theorem NdR.setTx(h:NdR o w i n v){x:Int}{xs:List ByteArray}(r:RTexts (Zas o w) u xs)(hs:∀s∈xs,s.size≤140737488355328):NdR o w i {n with nx:=x,txs:=xs } {v with tx:=u }:=⟨r,hs,h.ba,h.di,h.ta,h.da,h.ow,h.mi,h.vo,h.tp,h.ou⟩
theorem NdR.setUp(h:NdR o w i n v)(b:Bool):NdR o w i {n with up:=b } v:=⟨h.tx,h.small,h.ba,h.di,h.ta,h.da,h.ow,h.mi,h.vo,h.tp,h.ou⟩
theorem NdR.setTurn(h:NdR o w i n v)(x:Int):NdR o w i {n with turn:=x } v:=⟨h.tx,h.small,h.ba,h.di,h.ta,h.da,h.ow,h.mi,h.vo,h.tp,h.ou⟩
theorem NdR.setVo(h:NdR o w i n v){xs:List Int}(r:Row o (i,4) 1 RI 3 w u xs):NdR o w i {n with voters:=xs } {v with vo:=u }:=⟨h.tx,h.small,h.ba,h.di,h.ta,h.da,h.ow,h.mi,r,h.tp,h.ou⟩
theorem NdR.setTa(h:NdR o w i n v){xs:List Slot}(r:Row o (i,3) 3 RSlot 61 w u xs):NdR o w i {n with table:=xs } {v with ta:=u }:=⟨h.tx,h.small,h.ba,h.di,r,h.da,h.ow,h.mi,h.vo,h.tp,h.ou⟩
theorem NdR.setOu(h:NdR o w i n v){xs:List Msg}(r:Row o (i,5) 19 RMsgZ 66 w u xs):NdR o w i {n with out:=xs } {v with ou:=u }:=⟨h.tx,h.small,h.ba,h.di,h.ta,h.da,h.ow,h.mi,h.vo,h.tp,r⟩
end
structure NodeAt (o:Own) (w:World) (i tb g off:Nat) (n:Nd):Prop where
 mark:o g=some (8,tb)
 here:∃v:Vals,Sec w g off (ndC n v)∧NdR o w i n v
structure NFr (i tb g off:Nat) (o:Own) (w:World) (o':Own) (w':World):Prop where
 fr:Fr (fun t=>t=(8,tb)∨t.1=i) o w o' w'
 only:Only w w' g off 15
section
variable {T T':Nat×Nat→Prop} {o o' o2:Own} {w w' w2:World} {i tb g off:Nat} {n:Nd} {v:Vals}
theorem NFr.refl(hl:Lim o w):NFr i tb g off o w o w:=⟨.refl _ hl,.refl _ _ _ _⟩
theorem NFr.trans(h:NFr i tb g off o w o' w')(k:NFr i tb g off o' w' o2 w2):NFr i tb g off o w o2 w2:=⟨h.fr.trans k.fr (fun t ht=>.inl ht),h.only.trans k.only⟩
theorem NFr.step(h:NFr i tb g off o w o' w')(ho:o' g=some (8,tb))(f:Fr T o' w' o2 w2)(hT:∀t,T t→t.1=i∨(t.1=7∧w.heap.size≤t.2))(hi:i≠8):NFr i tb g off o w o2 w2 :=
 ⟨h.fr.trans f (fun t ht=>(hT t ht).imp .inr id),h.only.trans (.of_same fun hg=>(f.keep g hg (fun t ht hTt=>by
  rw[ho]at ht;injection ht with ht;subst ht
  rcases hT _ hTt with e|⟨e,_⟩
  ·exact hi e.symm
  ·cases e)).2)⟩
theorem NFr.below(h:NFr i tb g off o w o' w')(hb:Below w'.heap.size w' w2):NFr i tb g off o w o' w2 :=
 ⟨h.fr.trans (.of_below (T:=fun _=>False) h.fr.lim hb) (fun t ht=>ht.elim),h.only.trans (.of_same fun hg=>hb.block g hg)⟩
theorem NFr.store(h:NFr i tb g off o w o' w')(ho:o' g=some (8,tb))(hg:w'.grownBy w2 (some g)){m:Nat}(hw:Only w' w2 g (off+k) m)(hk:k+m≤15):NFr i tb g off o w o' w2 :=
 ⟨h.fr.trans (.grown (T:=fun t=>t=(8,tb)) h.fr.lim hg ho rfl) (fun t ht=>.inl (.inl ht)),h.only.trans (fun t whole hb=>by
  obtain⟨x,h1,h2,h3⟩:=hw t whole hb
  exact⟨x,h1,h2,fun j hj=>h3 j (by omega)⟩)⟩
theorem Zaq{tg:Nat×Nat}(hl:Lim o w)(hg:w.grownBy w' (some g))(ho:o g=some tg):Fr (fun t=>t=tg) o w o w':=.grown hl hg ho rfl
theorem Sec.fr{cs:List Value}{tg:Nat×Nat}(h:Sec w g off cs)(f:Fr T o w o' w')(ho:o g=some tg)(hT:¬T tg):Sec w' g off cs :=
 h.same (f.keep g h.lt (fun t ht hTt=>by rw[ho]at ht;injection ht with ht;subst ht;exact hT hTt)).2
theorem Zb5{tg:Nat×Nat}(hlt:g<w.heap.size)(f:Fr T o w o' w')(ho:o g=some tg)(hT:¬T tg):o' g=some tg :=
 ((f.keep g hlt (fun t ht hTt=>by rw[ho]at ht;injection ht with ht;subst ht;exact hT hTt)).1).trans ho
theorem NodeAt.fr(h:NodeAt o w i tb g off n)(f:Fr T o w o' w')(hT:∀k,¬T (i,k))(h8:¬T (8,tb)):NodeAt o' w' i tb g off n:=by
 obtain⟨v,h1,h2⟩:=h.here;exact⟨Zb5 h1.lt f h.mark h8,v,h1.fr f h.mark h8,h2.fr f hT⟩
theorem NodeAt.below(h:NodeAt o w i tb g off n)(hl:Lim o w)(hb:Below w.heap.size w w'):NodeAt o w' i tb g off n:=h.fr (.of_below (T:=fun _=>False) hl hb) (fun _ h=>h) (fun h=>h)
theorem NodeAt.lt(h:NodeAt o w i tb g off n):g<w.heap.size:=by obtain⟨v,h1,_⟩:=h.here;exact h1.lt
theorem Zam(hl:Lim o w)(hb:Below w.heap.size w w'):Lim o w':=(Fr.of_below (T:=fun _=>False) hl hb).lim
end
theorem Sec.nd0{n:Nd}{v:Vals}(h:Sec w g off (ndC n v)):w.cell? ⟨g,off,none⟩=some (.int .i64 n.me):=h.cell (j:=0) (show 0<15 by decide)
theorem Sec.nd1{n:Nd}{v:Vals}(h:Sec w g off (ndC n v)):w.cell? ⟨g,off+1,none⟩=some (.bool n.up):=h.cell (j:=1) (show 1<15 by decide)
theorem Sec.nd2{n:Nd}{v:Vals}(h:Sec w g off (ndC n v)):w.cell? ⟨g,off+2,none⟩=some (.int .i64 n.nx):=h.cell (j:=2) (show 2<15 by decide)
theorem Sec.nd3{n:Nd}{v:Vals}(h:Sec w g off (ndC n v)):w.cell? ⟨g,off+3,none⟩=some (v.tx):=h.cell (j:=3) (show 3<15 by decide)
theorem Sec.nd4{n:Nd}{v:Vals}(h:Sec w g off (ndC n v)):w.cell? ⟨g,off+4,none⟩=some (v.ba):=h.cell (j:=4) (show 4<15 by decide)
theorem Sec.nd5{n:Nd}{v:Vals}(h:Sec w g off (ndC n v)):w.cell? ⟨g,off+5,none⟩=some (v.di):=h.cell (j:=5) (show 5<15 by decide)
theorem Sec.nd6{n:Nd}{v:Vals}(h:Sec w g off (ndC n v)):w.cell? ⟨g,off+6,none⟩=some (v.ta):=h.cell (j:=6) (show 6<15 by decide)
theorem Sec.nd7{n:Nd}{v:Vals}(h:Sec w g off (ndC n v)):w.cell? ⟨g,off+7,none⟩=some (v.da):=h.cell (j:=7) (show 7<15 by decide)
theorem Sec.nd8{n:Nd}{v:Vals}(h:Sec w g off (ndC n v)):w.cell? ⟨g,off+8,none⟩=some (v.ow):=h.cell (j:=8) (show 8<15 by decide)
theorem Sec.nd9{n:Nd}{v:Vals}(h:Sec w g off (ndC n v)):w.cell? ⟨g,off+9,none⟩=some (v.mi):=h.cell (j:=9) (show 9<15 by decide)
theorem Sec.nd10{n:Nd}{v:Vals}(h:Sec w g off (ndC n v)):w.cell? ⟨g,off+10,none⟩=some (v.vo):=h.cell (j:=10) (show 10<15 by decide)
theorem Sec.nd11{n:Nd}{v:Vals}(h:Sec w g off (ndC n v)):w.cell? ⟨g,off+11,none⟩=some (v.tp):=h.cell (j:=11) (show 11<15 by decide)
theorem Sec.nd12{n:Nd}{v:Vals}(h:Sec w g off (ndC n v)):w.cell? ⟨g,off+12,none⟩=some (.int .i64 n.ty):=h.cell (j:=12) (show 12<15 by decide)
theorem Sec.nd13{n:Nd}{v:Vals}(h:Sec w g off (ndC n v)):w.cell? ⟨g,off+13,none⟩=some (v.ou):=h.cell (j:=13) (show 13<15 by decide)
theorem Sec.nd14{n:Nd}{v:Vals}(h:Sec w g off (ndC n v)):w.cell? ⟨g,off+14,none⟩=some (.int .i64 n.turn):=h.cell (j:=14) (show 14<15 by decide)
theorem Sec.putUp{n:Nd}{v:Vals}{b:Bool}(h:Sec w g off ((ndC n v).take 1++([Value.bool b]++(ndC n v).drop (1+[Value.bool b].length)))):Sec w g off (ndC {n with up:=b } v):=h
theorem Sec.putPool{n:Nd}{v:Vals}{x:Int}{xs:List ByteArray}(h:Sec w g off ((ndC n v).take 2++([Value.int .i64 x,u]++(ndC n v).drop (2+[Value.int .i64 x,u].length)))):Sec w g off (ndC {n with nx:=x,txs:=xs } {v with tx:=u }):=h
theorem Sec.putBa{n:Nd}{v:Vals}{xs:List Bat}(h:Sec w g off ((ndC n v).take 4++([u]++(ndC n v).drop (4+[u].length)))):Sec w g off (ndC {n with bats:=xs } {v with ba:=u }):=h
theorem Sec.putDi{n:Nd}{v:Vals}{xs:List (List UInt8)}(h:Sec w g off ((ndC n v).take 5++([u]++(ndC n v).drop (5+[u].length)))):Sec w g off (ndC {n with digs:=xs } {v with di:=u }):=h
theorem Sec.putTa{n:Nd}{v:Vals}{xs:List Slot}(h:Sec w g off ((ndC n v).take 6++([u]++(ndC n v).drop (6+[u].length)))):Sec w g off (ndC {n with table:=xs } {v with ta:=u }):=h
theorem Sec.putDa{n:Nd}{v:Vals}{xs:List Crt}(h:Sec w g off ((ndC n v).take 7++([u]++(ndC n v).drop (7+[u].length)))):Sec w g off (ndC {n with dag:=xs } {v with da:=u }):=h
theorem Sec.putOw{n:Nd}{v:Vals}{xs:Option Hdr}(h:Sec w g off ((ndC n v).take 8++([u]++(ndC n v).drop (8+[u].length)))):Sec w g off (ndC {n with own:=xs } {v with ow:=u }):=h
theorem Sec.putMi{n:Nd}{v:Vals}{xs:List UInt8}(h:Sec w g off ((ndC n v).take 9++([u]++(ndC n v).drop (9+[u].length)))):Sec w g off (ndC {n with mine:=xs } {v with mi:=u }):=h
theorem Sec.putVo{n:Nd}{v:Vals}{xs:List Int}(h:Sec w g off ((ndC n v).take 10++([u]++(ndC n v).drop (10+[u].length)))):Sec w g off (ndC {n with voters:=xs } {v with vo:=u }):=h
theorem Sec.putTp{n:Nd}{v:Vals}{y:Int}{xs:List UInt8}(h:Sec w g off ((ndC n v).take 11++([u,.int .i64 y]++(ndC n v).drop (11+[u,.int .i64 y].length)))):Sec w g off (ndC {n with tl:=xs,ty:=y } {v with tp:=u }):=h
theorem Sec.putOu{n:Nd}{v:Vals}{xs:List Msg}(h:Sec w g off ((ndC n v).take 13++([u]++(ndC n v).drop (13+[u].length)))):Sec w g off (ndC {n with out:=xs } {v with ou:=u }):=h
theorem Sec.putTurn{n:Nd}{v:Vals}{x:Int}(h:Sec w g off ((ndC n v).take 14++([Value.int .i64 x]++(ndC n v).drop (14+[Value.int .i64 x].length)))):Sec w g off (ndC {n with turn:=x } v):=h
theorem Ziz(n:Nd)(v:Vals):(ndC n v).length=15:=rfl
theorem Sec.wp_store{cs:List Value}(h:Sec w g off cs)(vs:List Value)(hi:i+vs.length≤cs.length){o:Oper}{v:Value}(ho:o.op=.store t x y)(hx:a.eval x=.pointer (some ⟨g,off+i,none⟩))(hy:a.eval y=v)(hin:(P.info? t).map (·.size)=some vs.length)(hv:v.cells.toList=vs)(h1:(vs.all fun u=>u.oneCell')=true)(k:∀w',Sec w' g off (cs.take i++(vs++cs.drop (i+vs.length)))→w.grownBy w' (some g)→Only w w' g (off+i) vs.length→K (a.put o.dst undef) w'):o.wp P a w K Q:=by
 have:=Sec.storeG h vs hi (P:=P) (o:=o) (a:=a) (Q:=Q) ho hx hy hin hv h1 k
 exact this
theorem Zvk{T:Nat×Nat→Prop}{o:Own}(hl:Lim o w)(hb:Below w.heap.size w W)(hlt:w.heap.size<W.heap.size):Fr T o w (mark o w.heap.size (some (7,w.heap.size))) W:=by
 have h0:=Fr.of_below (T:=T) hl hb;refine⟨hb.os,hb.tape,hb.output,hb.size,h0.lim.mark hlt (fun k hk=>by injection hk with hk;injection hk with _ hk;exact hk.symm),fun b hb' hn=>?_,fun b t' hb' hob hT=>⟨t',by rw[Zbz _ _ (by omega)];exact hob,hT⟩⟩;rw[Zbz _ _ (by omega)];exact h0.keep b hb' hn
theorem Zmz{T:Nat×Nat→Prop}{o o':Own}{tg:Nat×Nat}(h:Blk w g t cs)(f:Fr T o w o' w')(ho:o g=some tg)(hT:¬T tg):Blk w' g t cs :=
 ((f.keep g h.lt (fun t ht hTt=>by rw[ho]at ht;injection ht with ht;subst ht;exact hT hTt)).2).trans h
theorem Za3{T:Nat×Nat→Prop}{o o':Own}(h:Blk w g t cs)(f:Fr T o w o' w')(ho:o g=none):Blk w' g t cs :=
 ((f.keep g h.lt (fun t ht=>by rw[ho]at ht;cases ht)).2).trans h
theorem Ze5(i tb g off:Nat)(n:Nd)(tw:Int)(m:Msg)(vt vb vp vd cb cp cv:Value)(o:Own)(w:World)(hl:Lim o w)(hi:i<5)(hN:NodeAt o w i tb g off n)(hm:RMsg (Zas o w) m vt vb vp vd cb cp cv)(hs:∀s∈m.bat.txs,s.size≤140737488355328)(h4:n.out.length≤400) :
 Calls Tryz.prog 144 #[.pointer (some ⟨g,off,none⟩),.int .i64 tw,.agg (msgC m vt vb vp vd cb cp cv)] w fun e w'=>e=.returned (.tuple #[])∧∃o',NFr i tb g off o w o' w'∧NodeAt o' w' i tb g off (send n tw m):=by
 obtain⟨hmk,⟨vtx,vba,vdi,vta,vda,vow,vmi,vvo,vtp,vou⟩,hS,hR⟩:=hN;have hg:=hS.lt
 have hone:Hid (([.int .i64 n.me,.int .i64 tw,.int .i64 m.kind,.int .i64 m.bat.author,.int .i64 m.bat.number,vt,.int .i64 m.hdr.author,.int .i64 m.hdr.round,vb,vp,.int .i64 m.slt.author,.int .i64 m.slt.round,vd,.int .i64 m.crt.hdr.author,.int .i64 m.crt.hdr.round,cb,cp,cv,.int .i64 m.round]:List Value).all (fun u=>u.oneCell')=true):=by
  obtain⟨⟨tA,tc,rfl⟩,⟨bA,bc,rfl⟩,⟨pA,pc,rfl⟩,⟨dA,dc,rfl⟩,⟨cA,cc,rfl⟩,⟨qA,qc,rfl⟩,⟨vA,vc,rfl⟩⟩:=hm.forms;rfl
 unfold msgC
 go_enter Tryz.func144,Tryz.ntmps144
 go_upto_region 1 with fail
 refine Zo fun W hk hsz hb=>?_
 have f1:=Zvk (T:=fun _=>False) hl hb (by omega);have hk7:=Zc7 o w.heap.size (some (7,w.heap.size));have S1:=hS.fr f1 hmk (fun h=>h);have R1:=hR.fr f1 (fun _ h=>h);have m1:=Zb5 hg f1 hmk (fun h=>h);have r1:=hm.mono f1.view;have l1:=f1.lim;generalize mark o w.heap.size (some (7,w.heap.size))=o1 at *;obtain⟨oA,oc,rfl⟩:=hR.ou.form;have s0:=S1.nd0;have s13:=S1.nd13;simp only at s0 s13
 by_cases h:n.out.length<400
 rotate_left
 ·have h':¬(n.out.length:Int)<400:=by omega
  go_wp2;go_end0;rw[show Fl.send n tw m=n from if_neg h];exact⟨rfl,o1,⟨f1.mono (fun _ h=>h.elim),.of_same fun hg=>hb.block g hg⟩,m1,_,S1,R1⟩
 have h':(n.out.length:Int)<400:=by omega
 go_wp2_with (refine Zai (n:=1) rfl rfl rfl rfl (by kernel_rfl) rfl hk (by simp) rfl ?_)
 intro w2 hk2 hg2
 go_wp2_with (refine Zai (n:=1) rfl rfl rfl rfl (by kernel_rfl) rfl hk2 (by simp) rfl ?_)
 intro w3 hk3 hg3;have hk3:Blk w3 w.heap.size 66 #[.int .i64 n.me,.int .i64 tw,.int .i64 m.kind,.int .i64 m.bat.author,.int .i64 m.bat.number,vt,.int .i64 m.hdr.author,.int .i64 m.hdr.round,vb,vp,.int .i64 m.slt.author,.int .i64 m.slt.round,vd,.int .i64 m.crt.hdr.author,.int .i64 m.crt.hdr.round,cb,cp,cv,.int .i64 m.round]:=hk3;have f2:=Zaq l1 hg2 hk7;have f3:=Zaq f2.lim hg3 hk7;have hne:∀k,¬((i,k):Nat×Nat)=(7,w.heap.size):=fun k e=>by injection e;omega
 have S3:=(S1.fr f2 m1 (by simp)).fr f3 m1 (by simp);have R3:=(R1.fr f2 hne).fr f3 hne;have F1:NFr i tb g off o w o1 W:=⟨f1.mono (fun _ h=>h.elim),.of_same fun hg=>hb.block g hg⟩;have F3:=(F1.step m1 f2 (fun t ht=>.inr ⟨by rw[ht],by rw[ht];exact Nat.le_refl _⟩) (by omega)).step m1 f3 (fun t ht=>.inr ⟨by rw[ht],by rw[ht];exact Nat.le_refl _⟩) (by omega);have r3:=(r1.mono f2.view).mono f3.view;have l3:=f3.lim;clear S1 R1 hk hk2 hg2 hg3 f2 F1 r1 s0 s13 hS hR hm;have hlen:(send n tw m).out=n.out++[{ m with src:=n.me,dst:=tw }]:=by unfold Fl.send;rw[if_pos h]
 go_wp2_with fail
 refine Zt (fun w'=>Below w3.heap.size w3 w') (fun w'=>Blk w' w.heap.size 66 #[.int .i64 n.me,.int .i64 tw,.int .i64 m.kind,.int .i64 m.bat.author,.int .i64 m.bat.number,vt,.int .i64 m.hdr.author,.int .i64 m.hdr.round,vb,vp,.int .i64 m.slt.author,.int .i64 m.slt.round,vd,.int .i64 m.crt.hdr.author,.int .i64 m.crt.hdr.round,cb,cp,cv,.int .i64 m.round]∧w'.cell? ⟨g,off+13,none⟩=some (.slice oA n.out.length oc)) [10] (.q 0 (.q 1 (.q 2 (.q 3 (.q 4 (.q 5 (.l 6 (.l 7 (.q 8 (.q 9 (.l 10 .nil))))))))))) ?_ ?_
 ·exact⟨Zad _,hk3.drew,S3.nd13⟩
 intro W4 hS0 hS;have f4:=Fr.of_below (T:=fun _=>False) l3 hS0;have S4:=S3.fr f4 m1 (fun h=>h);have R4:=R3.fr f4 (fun _ h=>h);have F4:=F3.below hS0;have r4:=r3.mono f4.view;have l4:=f4.lim;have hk4:=hS.1
 repeat((first|refine pq (h:=⟨_,fun w' hS=>by(have h0:=hS.2;go_simp;exact rfl),?_⟩)|refine Zq ?_);simp only[sx])
 refine pl_q (by assumption) rfl rfl ?_;apply Exists.intro;refine⟨fun w' hS=>Zfj 66 _ rfl _ rfl _ _ (0,0) _ (hS.1) Tryz.underlying66 rfl (by kernel_rfl),?_⟩;simp only[List.getElem_toArray,List.getElem_cons_zero,List.getElem_cons_succ,Act.put,List.setIfInBounds_toArray,List.set_cons_zero,List.set_cons_succ]
 repeat(refine Zq ?_;simp only[sx])
 refine Zd fun K hK=>?_
 try simp only[sy]
 go_simp;have hb5:=Zac W4 (.cells #[.int .i64 n.me,.int .i64 tw,.int .i64 m.kind,.int .i64 m.bat.author,.int .i64 m.bat.number,vt,.int .i64 m.hdr.author,.int .i64 m.hdr.round,vb,vp,.int .i64 m.slt.author,.int .i64 m.slt.round,vd,.int .i64 m.crt.hdr.author,.int .i64 m.crt.hdr.round,cb,cp,cv,.int .i64 m.round] 66);refine hK.out _ _ (⟨hS.1.kept hb5,Zaa hb5 _ _ hS.2⟩) fun hS=>?_
 clear hK K
 try simp only[sx]
 repeat(refine Zq ?_;simp only[sx])
 refine Zd fun K hK=>?_
 try simp only[sy]
 refine Zce (n:=140737488355328) RMsgZ.mono {m with src:=n.me,dst:=tw } [.int .i64 n.me,.int .i64 tw,.int .i64 m.kind,.int .i64 m.bat.author,.int .i64 m.bat.number,vt,.int .i64 m.hdr.author,.int .i64 m.hdr.round,vb,vp,.int .i64 m.slt.author,.int .i64 m.slt.round,vd,.int .i64 m.crt.hdr.author,.int .i64 m.crt.hdr.round,cb,cp,cv,.int .i64 m.round] Zi6 _ _ rfl rfl R4.ou l4 (by simp;omega) rfl rfl rfl hone.out ⟨⟨_,_,_,_,_,_,_,rfl,r4.txs,r4.bats,r4.pars,r4.dig,r4.cbats,r4.cpars,r4.vots⟩,hs⟩ (Nat.le_refl _) (by omega) (by omega) (fun v' w5 o5 r5 f5=>?_);have S5:=S4.fr f5 m1 (by simp;omega);have m5:=Zb5 S4.lt f5 m1 (by simp;omega);have R5:=R4.ou' f5 r5;have F5:=F4.step m1 f5 (fun t ht=>.inl (by rw[ht])) (by omega);obtain⟨A5,c5,rfl⟩:=r5.form;have hk5:=Zmz hk4 f5 hk7 (by simp;omega);refine hK.out _ _ (⟨hk5,S5.nd13⟩) fun hS=>?_
 clear hK K
 try simp only[sx]
 repeat(refine Zq ?_;simp only[sx])
 refine Zc fun K hK=>?_
 try simp only[sy]
 refine Sec.wp_store S5 (i:=13) [.slice A5 (n.out++[{ m with src:=n.me,dst:=tw }]).length c5] (show 13+1≤15 by decide) rfl rfl rfl (by kernel_rfl) rfl rfl ?_;intro w6 S6 hg6 h6;have R6:=R5.fr (Zaq F5.fr.lim hg6 m5) (fun k e=>by injection e;omega);have F6:=F5.store m5 hg6 h6 (show 13+1≤15 by decide);refine hK.out _ _ ?_;clear hK K
 try simp only[sx]
 repeat(refine Zq ?_;simp only[sx])
 refine Zah ?_;go_wp2;go_end0;rw[show Fl.send n tw m={ n with out:=n.out++[{ m with src:=n.me,dst:=tw }] } from if_pos h];exact⟨rfl,o5,F6,m5,_,S6.putOu,R6⟩
end Fl
theorem Zbm{b':Nat}(hb:b'≤b):VLe (View.from h b) (View.from h b'):=fun a v e=>by
 unfold View.from at e⊢
 split at e
 ·cases e
 ·rw[if_neg (by omega)]
  exact e
theorem Zi5(hg:w.grownBy w' (some g))(hgb:g<b):VLe (View.from w.cell? b) (View.from w'.cell? b):=fun a v e=>by
 unfold View.from at e⊢
 split at e
 ·cases e
 ·rename_i hne
  rw[if_neg hne]
  exact hg.cell e (by intro h;injection h;omega)
theorem Zh8{w2 w9 w10:World}{b':Nat}{q:Option Nat}(hb:Below w2.heap.size w2 w9)(hg:w9.grownBy w10 (some c))(hc:c<b)(ho:∀k,q=some k→w2.heap.size≤k)(hlow:b'≤b):VLe (View.from w2.cell? b) (View.from (View.but w10.cell? q) b'):=fun a v e=>by
 unfold View.from at e⊢
 split at e
 ·cases e
 ·rename_i hne
  have hlt:=World.block_lt_of_cell? w2 a e
  rw[if_neg (by omega)]
  unfold View.but
  rw[if_neg (fun h=>by have:=ho a.block h.symm;omega)]
  exact hg.cell (Zaa hb _ _ e) (by intro h;injection h;omega)
theorem OwnSl.lower{b':Nat}{v:Value}(h:OwnSl sz (RFrom b R) e w b v xs)(hR:Mono R)(hb:b'≤b):OwnSl sz (RFrom b' R) e w b' v xs:=by
 obtain⟨css,h1,h2,h3⟩:=(h.base hb).own;refine⟨css,h1,h2,fun i hi=>?_⟩;obtain⟨cs,q1,q2,q3⟩:=h3 i hi;exact⟨cs,q1,q2,hR _ _ _ _ q3 (Zbm hb)⟩
end Go.Proofs.YtinibgklgehdpaaGreatDoor
