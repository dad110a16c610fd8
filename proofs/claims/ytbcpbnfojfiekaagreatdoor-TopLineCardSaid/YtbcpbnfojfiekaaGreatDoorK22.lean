/- A part of what the last text stands on. -/
import Derived.StringKeys
import Derived.Maps.OwnSet
import Derived.Maps.AppendAt
import Derived.Test.YtbcpbnfojfiekaaGreatDoorK17
import Derived.Test.YtbcpbnfojfiekaaGreatDoorK21
namespace Go.Proofs.YtbcpbnfojfiekaaGreatDoor
open Go.ChangeShapes Go.WideShapes Go.ChangeAt Go.RowKit Go.Proofs.Tryz Qa Qb Qc
set_option linter.all false
set_option maxHeartbeats 20000000
set_option maxRecDepth 100000
variable{P:Program}{w:World}{a:Act}{Q:Exit→Act→World→Prop}{K:Act→World→Prop}{u:Value}{h:View}{t:TypeId}{k i g off:Nat}{x y:Operand}
namespace Fl
structure Nd where
 me:Int
 up:Bool
 nx:Int
 txs:List ByteArray
 bats:List Bat
 digs:List (List UInt8)
 table:List Slot
 dag:List Crt
 own:Option Hdr
 mine:List UInt8
 voters:List Int
 tl:List UInt8
 ty:Int
 out:List Msg
 turn:Int
structure Ft where
 rogue:Int
 nodes:List Nd
 signs:List Sign
 away:List Msg
 codes:List Int
structure At where
 kind:Int
 node:Int
 pick:Int
 text:ByteArray
def batM(b:Bat):Msg:={ msg0 with kind:=1,bat:=b }
def offM(h:Hdr):Msg:={ msg0 with kind:=2,hdr:=h }
def votM(s:Slot):Msg:={ msg0 with kind:=3,slt:=s }
def prfM(c:Crt):Msg:={ msg0 with kind:=4,crt:=c }
def wntM(r:Int):Msg:={ msg0 with kind:=5,round:=r }
def bdR(b:Bat):List UInt8:=Zvq b.author b.number b.txs
def hdR(h:Hdr):List UInt8:=Zjq h.author h.round h.batches h.parents
def fresh(me:Int):Nd:=⟨me,true,1,[],[],[],[],[],none,[],[],[],0,[],0⟩
def Zfr(n:Nd)(m:Msg):Int:=appE n.tl n.ty m
def kept(n:Nd)(m:Msg):Nd:={ n with tl:=appL n.tl n.ty m,ty:=appA n.tl n.ty m }
def keep(n:Nd)(m:Msg):Nd×Bool:=if Zfr n m=0 then(kept n m,true)else(n,false)
def send(n:Nd)(tw:Int)(m:Msg):Nd:=if n.out.length<400 then {n with out:=n.out++[{ m with src:=n.me,dst:=tw }] } else n
def Zco(m:Msg)(n:Nd)(tw:Int):Nd:=if tw≠n.me then send n tw m else n
def all4:List Int:=[0,1,2,3]
def tell(n:Nd)(m:Msg):Nd:=all4.foldl (Zco m) n
def held(n:Nd)(d:List UInt8):Int:=idxI (·==d) n.digs
def put(n:Nd)(b:Bat):Nd:={ n with bats:=n.bats++[b],digs:=n.digs++[bdR b] }
def store(n:Nd)(b:Bat)(write:Bool):Nd×Bool :=
 if 0≤held n (bdR b)∨n.bats.length=800 then(n,false)
 else if write then(if Zfr n (batM b)=0 then(put (kept n (batM b)) b,true)else(n,false))else(put n b,true)
def Zwq(x b:Bat):Bool:=x.author==b.author&&(x.number==b.number&&(x.txs.map fun s=>s.toList)==b.txs.map fun s=>s.toList)
def has(n:Nd)(b:Bat):Bool:=n.bats.any fun x=>Zwq x b
def insert(n:Nd)(c:Crt)(write:Bool):Nd×Bool :=
 if insE n.dag c≠0 then(n,false)
 else if write then(if Zfr n (prfM c)=0 then({ kept n (prfM c)with dag:=insL n.dag c },true)else(n,false))else({ n with dag:=insL n.dag c },true)
def Zd8(n:Nd)(a r:Int):Bool:=n.dag.any (Zez a r)
def vote(n:Nd)(h:Hdr):Nd×Bool :=
 if Ze5 n.table h≠0 then(n,false)
 else if n.table.length<(Zc6 n.table h).length then(if Zfr n (votM (Zcz n.table h))=0 then({ kept n (votM (Zcz n.table h))with table:=Zc6 n.table h },true)else(n,false))
 else({ n with table:=Zc6 n.table h },true)
def signed(signs:List Sign)(rogue:Int)(n:Int)(s:Slot):Bool:=Zje signs rogue ⟨n,s⟩
def offer(signs:List Sign)(rogue:Int)(n:Nd)(h:Hdr):Nd :=
 if h.author=n.me∨signed signs rogue h.author ⟨h.author,h.round,hdR h⟩=false then n
 else if Zr1 n.dag h≠0∨0<(Zxe n.dag h).length then n
 else if h.batches.any (fun b=>decide (held n b<0))then n
 else if (vote n h).2 then send (vote n h).1 h.author (votM (Zcz n.table h))else(vote n h).1
def Zdk(l:List Int):List Int:=l.mergeSort (fun a b=>decide (a≤b))
def count(signs:List Sign)(rogue:Int)(n:Nd)(src:Int)(s:Slot):Nd :=
 match n.own with
 |none=>n
 |some h =>
  if s.author≠n.me∨s.round≠h.round∨s.digest≠n.mine then n
  else if Zd8 n n.me h.round∨src∈n.voters∨signed signs rogue src s=false then n
  else if (n.voters++[src]).length<3 then {n with voters:=n.voters++[src] }
  else if (insert {n with voters:=n.voters++[src] } ⟨h,Zdk (n.voters++[src])⟩ true).2
   then tell (insert {n with voters:=n.voters++[src] } ⟨h,Zdk (n.voters++[src])⟩ true).1 (prfM ⟨h,Zdk (n.voters++[src])⟩)
   else(insert {n with voters:=n.voters++[src] } ⟨h,Zdk (n.voters++[src])⟩ true).1
def leC(a b:Crt):Bool:=if a.hdr.round≠b.hdr.round then decide (a.hdr.round≤b.hdr.round)else decide (a.hdr.author≤b.hdr.author)
def sortC(l:List Crt):List Crt:=l.mergeSort leC
def sendB(tw:Int)(n:Nd)(d:List UInt8):Nd:=if 0≤held n d then(match n.bats[(held n d).toNat]? with|some b=>send n tw (batM b)|none=>n)else n
def Zhn(tw:Int)(n:Nd)(c:Crt):Nd:=send (c.hdr.batches.foldl (sendB tw) n) tw (prfM c)
def Zs8(n:Nd)(round:Int):List Crt:=(sortC (n.dag.filter fun c=> !decide (c.hdr.round<round))).take 8
def serve(n:Nd)(tw round:Int):Nd:=if tw=n.me then n else(Zs8 n round).foldl (Zhn tw) n
def come1(signs:List Sign)(rogue:Int)(n:Nd)(m:Msg):Nd :=
 if m.kind=1 then(store n m.bat true).1
 else if m.kind=2 then offer signs rogue n m.hdr
 else if m.kind=3 then count signs rogue n m.src m.slt
 else if m.kind=4 then(if Zmz signs rogue m.crt=0 then(insert n m.crt true).1 else n)
 else if m.kind=5 then serve n m.src m.round
 else n
def Zav(f:Ft)(i:Int):Nd:=(f.nodes[i.toNat]?).getD (fresh 0)
def Za4(f:Ft)(i:Int)(n:Nd):Ft:={ f with nodes:=f.nodes.set i.toNat n }
def come(f:Ft)(tw:Int)(m:Msg):Ft:=if (Zav f tw).up=false∨tw=f.rogue then f else Za4 f tw (come1 f.signs f.rogue (Zav f tw) m)
def usedB(n:Nd)(d:List UInt8):Bool:=n.dag.any fun c=>c.hdr.author==n.me&&c.hdr.batches.any (·==d)
def Zfe(n:Nd)(o:List (List UInt8))(p:Bat×List UInt8):List (List UInt8):=if p.1.author=n.me∧usedB n p.2=false∧o.length<3 then o++[p.2]else o
def loose(n:Nd):List (List UInt8):=(n.bats.zip n.digs).foldl (Zfe n) []
def Zd5(n:Nd)(round:Int):Hdr:=⟨n.me,round,loose n,if 1<round then digV n.dag (round-1)else []⟩
def propose(n:Nd)(round:Int):Nd :=
 if Ze5 n.table (Zd5 n round)≠0∨Zfr n (offM (Zd5 n round))≠0 then n
 else tell {kept n (offM (Zd5 n round))with table:=Zc6 n.table (Zd5 n round),own:=some (Zd5 n round),mine:=(Zcz n.table (Zd5 n round)).digest,voters:=[n.me] } (offM (Zd5 n round))
def Zej(h:Hdr)(n:Nd)(tw:Int):Nd:=if tw∈n.voters then n else send (h.batches.foldl (sendB tw) n) tw (offM h)
def again(n:Nd):Nd:=match n.own with|none=>n|some h=>all4.foldl (Zej h) n
def Zn7(n:Nd)(w:Int)(c:Crt):Int:=if c.hdr.batches.any (fun d=>decide (held n d<0))then min w c.hdr.round else w
def wanted(n:Nd)(round:Int):Int:=n.dag.foldl (Zn7 n) (max 1 (round-1))
def Zii(n:Nd):Bat:=⟨Zp4 n.nx n.txs n.me,Zp3 n.nx n.txs n.me,Znl n.nx n.txs n.me⟩
def work1(n:Nd):Nd :=
 if Zkc n.nx n.txs n.me=0∧((store n (Zii n) true).2∨has (store n (Zii n) true).1 (Zii n))
 then tell {(store n (Zii n) true).1 with nx:=Zho n.nx n.txs n.me,txs:=Zdm n.nx n.txs n.me } (batM (Zii n))
 else if Zkc n.nx n.txs n.me=0 then(store n (Zii n) true).1 else n
def work2(n:Nd)(round:Int):Nd :=
 match n.own with
 |none=>propose n round
 |some h=>if h.round<round then propose n round else if Zd8 n n.me h.round=false then again n else n
def Zgj(me turn:Int):Int:=if (turn+1)%4=me then((turn+1)%4+1)%4 else(turn+1)%4
def work3(n:Nd)(round:Int):Nd:=send {n with turn:=Zgj n.me n.turn } (Zgj n.me n.turn) (wntM (wanted n round))
def work(n:Nd):Nd:=work3 (work2 (work1 n) (rndV (work1 n).dag)) (rndV (work1 n).dag)
def Znk(me:Int)(m:Msg):Option Sign :=
 if m.kind=2 then some ⟨me,⟨m.hdr.author,m.hdr.round,hdR m.hdr⟩⟩else if m.kind=3 then some ⟨me,m.slt⟩else none
def Zc8(me:Int)(p:List Sign×List Msg)(m:Msg):List Sign×List Msg :=
 ((match Znk me m with|some s=>addL p.1 s|none=>p.1),if p.2.length<400 then p.2++[m]else p.2)
def syncN(n:Nd):Nd:={ n with ty:=if Zbc n.tl n.ty then n.tl.length else 0,tl:=if Zbc n.tl n.ty then n.tl else [],out:=[] }
def sync(f:Ft)(i:Int):Ft :=
 let n:=Zav f i
 let p:=n.out.foldl (Zc8 n.me) (f.signs,f.away)
 {Za4 f i (syncN n)with signs:=p.1,away:=p.2 }
def recS(n:Nd)(m:Msg):Nd :=
 if m.kind=1 then(if m.bat.author=n.me then {(store n m.bat false).1 with nx:=max (store n m.bat false).1.nx (m.bat.number+1) } else(store n m.bat false).1)
 else if m.kind=2 then {n with own:=some m.hdr,voters:=[n.me],mine:=hdR m.hdr,table:=if Ze5 n.table m.hdr=0 then Zc6 n.table m.hdr else n.table }
 else if m.kind=3 then {n with table:=n.table++[m.slt] }
 else if m.kind=4 then(insert n m.crt false).1
 else n
def crL(l:List UInt8)(a keep:Int):List UInt8:=if Zbc l a∧0≤keep then l.take (Zdw a keep l.length)else []
def crA(l:List UInt8)(a keep:Int):Int:=if Zbc l a∧0≤keep then Zdw a keep l.length else 0
def crash(n:Nd)(me keep:Int):Nd :=
 let l:=crL n.tl n.ty keep
 let a:=crA n.tl n.ty keep
 (rcvM l a).foldl recS {fresh me with up:=false,tl:=rcvD l a,ty:=rcvY l a }
def act(f:Ft)(a:At):Ft :=
 let n:=Zav f a.node
 if a.kind=8 then Za4 f a.node {n with up:=true }
 else if n.up=false then f
 else if a.kind=2 then Za4 f a.node (work n)
 else if a.kind=3 then sync f a.node
 else if a.kind=7 then Za4 f a.node (crash n a.node a.pick)
 else f
def Zk4(f:Ft)(a:At):Int:=let n:=Zav f a.node;if n.up=false∨n.me=f.rogue then 12 else addF n.nx n.txs a.text
def submit(f:Ft)(a:At):Ft :=
 let n:=Zav f a.node
 if Zk4 f a=0 then Za4 f a.node {n with txs:=n.txs++[a.text] } else f
def pick(f:Ft)(p:Int):Nat:=(p%(f.away.length:Int)).toNat
def doA(f:Ft)(a:At):Ft :=
 if a.kind=1 then {submit f a with codes:=f.codes++[Zk4 f a] }
 else if a.kind=4∨a.kind=5 then
  (match f.away[pick f a.pick]? with
   |none=>f
   |some m=>if a.kind=4 then come {f with away:=f.away.eraseIdx (pick f a.pick) } m.dst m else {f with away:=f.away.eraseIdx (pick f a.pick) })
 else if a.kind=6 then
  (match f.away[pick f a.pick]? with
   |none=>f
   |some m=>if f.away.length<400 then {f with away:=f.away++[m] } else f)
 else if a.kind=10 then f.away.foldl (fun g m=>come g m.dst m) {f with away:=[] }
 else if a.kind=9 then(if decE (Zb9 a.text)=0∧0≤f.rogue then come f a.node (decM (Zb9 a.text))else f)
 else if a.node≠f.rogue then act f a else f
def start(rogue:Int):Ft:=⟨rogue,[fresh 0,fresh 1,fresh 2,fresh 3],[],[],[]⟩
def actE(a:At):Int:=actF a.kind a.node a.pick a.text
def run(rogue:Int)(l:List At):Ft:=l.foldl doA (start rogue)
def runE(rogue:Int)(l:List At):Int:=if !inB rogue (-1) 3 then 2 else if 3000<l.length then 1 else(match l.find? (fun a=>actE a != 0)with|some a=>actE a|none=>0)
structure Vw where
 up:Bool
 round:Int
 certs:List Crt
 bats:List Bat
 votes:List Slot
 pool:List ByteArray
def view(n:Nd):Vw:=⟨n.up,rndV n.dag,n.dag,n.bats,n.table,n.txs⟩
def vw0:Vw:=⟨false,0,[],[],[],[]⟩
structure Oc where
 nodes:List Vw
 signs:List Sign
 away:Int
 codes:List Int
def Zhx(f:Ft):List Vw:=all4.map fun i=>if i=f.rogue then vw0 else view (Zav f i)
def Zjk(f:Ft):Oc:=⟨Zhx f,f.signs,f.away.length,f.codes⟩
def RI:View→List Value→Int→Prop:=fun _ cs x=>cs=[.int .i64 x]
theorem RI.mono:Mono RI:=fun _ _ _ _ h _=>h
def RMsgZ(h:View)(cs:List Value)(m:Msg):Prop:=RMsgR h cs m∧∀s∈m.bat.txs,s.size≤140737488355328
theorem RMsgZ.mono:Mono RMsgZ:=fun _ _ _ _ h a=>⟨RMsgR.mono _ _ _ _ h.1 a,h.2⟩
def ROwn(h:View)(v:Value):Option Hdr→Prop
 |none=>v=.pointer none
 |some x=>∃b vb vp,v=.pointer (some ⟨b,0,none⟩)∧h ⟨b,0,none⟩=some (.int .i64 x.author)∧h ⟨b,1,none⟩=some (.int .i64 x.round)∧h ⟨b,2,none⟩=some vb∧h ⟨b,3,none⟩=some vp∧RDigs h vb x.batches∧RDigs h vp x.parents
theorem ROwn.mono{c:View}{v:Value}{x:Option Hdr}(r:ROwn h v x)(a:VLe h c):ROwn c v x:=by
 cases x with
 |none=>exact r
 |some x =>
  obtain⟨b,vb,vp,e,d,f,k,j,g,i⟩:=r;exact⟨b,vb,vp,e,a _ _ d,a _ _ f,a _ _ k,a _ _ j,g.mono Ze a,i.mono Ze a⟩
structure Vals where
 tx:Value
 ba:Value
 di:Value
 ta:Value
 da:Value
 ow:Value
 mi:Value
 vo:Value
 tp:Value
 ou:Value
def ndC(n:Nd)(v:Vals):List Value:=[.int .i64 n.me,.bool n.up,.int .i64 n.nx,v.tx,v.ba,v.di,v.ta,v.da,v.ow,v.mi,v.vo,v.tp,.int .i64 n.ty,v.ou,.int .i64 n.turn]
structure NdR (o:Own) (w:World) (i:Nat) (n:Nd) (v:Vals):Prop where
 tx:RTexts (Zas o w) v.tx n.txs
 small:∀s∈n.txs,s.size≤140737488355328
 ba:Row o (i,1) 3 RBat 82 w v.ba n.bats
 di:Row o (i,2) 1 RDig 53 w v.di n.digs
 ta:Row o (i,3) 3 RSlot 85 w v.ta n.table
 da:RCrts (Zas o w) v.da n.dag
 ow:ROwn (Zas o w) v.ow n.own
 mi:Zan (Zas o w) v.mi n.mine
 vo:Row o (i,4) 1 RI 3 w v.vo n.voters
 tp:Zan (Zas o w) v.tp n.tl
 ou:Row o (i,5) 19 RMsgZ 90 w v.ou n.out
section
variable {T T':Nat×Nat→Prop} {o o' o2:Own} {w w' w2:World} {i:Nat} {n:Nd} {v:Vals}
theorem NdR.fr(h:NdR o w i n v)(f:Fr T o w o' w')(hT:∀k,¬T (i,k)):NdR o' w' i n v :=
 ⟨h.tx.mono f.view,h.small,h.ba.fr RBat.mono f (hT _),h.di.fr Ze f (hT _),h.ta.fr RSlot.mono f (hT _),h.da.mono RCrt.mono f.view,h.ow.mono f.view,h.mi.mono f.view,h.vo.fr RI.mono f (hT _),h.tp.mono f.view,h.ou.fr RMsgZ.mono f (hT _)⟩
theorem NdR.ou'(h:NdR o w i n v)(f:Fr (fun t=>t=(i,5)) o w o' w'){v':Value}{xs:List Msg}(r:Row o' (i,5) 19 RMsgZ 90 w' v' xs):NdR o' w' i {n with out:=xs } {v with ou:=v' } :=
 ⟨h.tx.mono f.view,h.small,h.ba.fr RBat.mono f (by simp),h.di.fr Ze f (by simp),h.ta.fr RSlot.mono f (by simp),h.da.mono RCrt.mono f.view,h.ow.mono f.view,h.mi.mono f.view,h.vo.fr RI.mono f (by simp),h.tp.mono f.view,r⟩
theorem NdR.ba'(h:NdR o w i n v)(f:Fr (fun t=>t=(i,1)) o w o' w'){v':Value}{xs:List Bat}(r:Row o' (i,1) 3 RBat 82 w' v' xs):NdR o' w' i {n with bats:=xs } {v with ba:=v' } :=
 ⟨h.tx.mono f.view,h.small,r,h.di.fr Ze f (by simp),h.ta.fr RSlot.mono f (by simp),h.da.mono RCrt.mono f.view,h.ow.mono f.view,h.mi.mono f.view,h.vo.fr RI.mono f (by simp),h.tp.mono f.view,h.ou.fr RMsgZ.mono f (by simp)⟩
theorem NdR.di'(h:NdR o w i n v)(f:Fr (fun t=>t=(i,2)) o w o' w'){v':Value}{xs:List (List UInt8)}(r:Row o' (i,2) 1 RDig 53 w' v' xs):NdR o' w' i {n with digs:=xs } {v with di:=v' } :=
 ⟨h.tx.mono f.view,h.small,h.ba.fr RBat.mono f (by simp),r,h.ta.fr RSlot.mono f (by simp),h.da.mono RCrt.mono f.view,h.ow.mono f.view,h.mi.mono f.view,h.vo.fr RI.mono f (by simp),h.tp.mono f.view,h.ou.fr RMsgZ.mono f (by simp)⟩
theorem NdR.ta'(h:NdR o w i n v)(f:Fr (fun t=>t=(i,3)) o w o' w'){v':Value}{xs:List Slot}(r:Row o' (i,3) 3 RSlot 85 w' v' xs):NdR o' w' i {n with table:=xs } {v with ta:=v' } :=
 ⟨h.tx.mono f.view,h.small,h.ba.fr RBat.mono f (by simp),h.di.fr Ze f (by simp),r,h.da.mono RCrt.mono f.view,h.ow.mono f.view,h.mi.mono f.view,h.vo.fr RI.mono f (by simp),h.tp.mono f.view,h.ou.fr RMsgZ.mono f (by simp)⟩
theorem NdR.vo'(h:NdR o w i n v)(f:Fr (fun t=>t=(i,4)) o w o' w'){v':Value}{xs:List Int}(r:Row o' (i,4) 1 RI 3 w' v' xs):NdR o' w' i {n with voters:=xs } {v with vo:=v' } :=
 ⟨h.tx.mono f.view,h.small,h.ba.fr RBat.mono f (by simp),h.di.fr Ze f (by simp),h.ta.fr RSlot.mono f (by simp),h.da.mono RCrt.mono f.view,h.ow.mono f.view,h.mi.mono f.view,r,h.tp.mono f.view,h.ou.fr RMsgZ.mono f (by simp)⟩
end
section
variable {o:Own} {w:World} {i:Nat} {n:Nd} {v:Vals}
theorem NdR.setTp(h:NdR o w i n v){xs:List UInt8}{y:Int}(r:Zan (Zas o w) u xs):NdR o w i {n with tl:=xs,ty:=y } {v with tp:=u }:=⟨h.tx,h.small,h.ba,h.di,h.ta,h.da,h.ow,h.mi,h.vo,r,h.ou⟩
theorem NdR.setDa(h:NdR o w i n v){xs:List Crt}(r:RCrts (Zas o w) u xs):NdR o w i {n with dag:=xs } {v with da:=u }:=⟨h.tx,h.small,h.ba,h.di,h.ta,r,h.ow,h.mi,h.vo,h.tp,h.ou⟩
theorem NdR.setOw(h:NdR o w i n v){x:Option Hdr}(r:ROwn (Zas o w) u x):NdR o w i {n with own:=x } {v with ow:=u }:=⟨h.tx,h.small,h.ba,h.di,h.ta,h.da,r,h.mi,h.vo,h.tp,h.ou⟩
theorem NdR.setMi(h:NdR o w i n v){xs:List UInt8}(r:Zan (Zas o w) u xs):NdR o w i {n with mine:=xs } {v with mi:=u }:=⟨h.tx,h.small,h.ba,h.di,h.ta,h.da,h.ow,r,h.vo,h.tp,h.ou⟩
theorem NdR.setTx(h:NdR o w i n v){x:Int}{xs:List ByteArray}(r:RTexts (Zas o w) u xs)(a:∀s∈xs,s.size≤140737488355328):NdR o w i {n with nx:=x,txs:=xs } {v with tx:=u }:=⟨r,a,h.ba,h.di,h.ta,h.da,h.ow,h.mi,h.vo,h.tp,h.ou⟩
theorem NdR.setUp(h:NdR o w i n v)(b:Bool):NdR o w i {n with up:=b } v:=⟨h.tx,h.small,h.ba,h.di,h.ta,h.da,h.ow,h.mi,h.vo,h.tp,h.ou⟩
theorem NdR.setTurn(h:NdR o w i n v)(x:Int):NdR o w i {n with turn:=x } v:=⟨h.tx,h.small,h.ba,h.di,h.ta,h.da,h.ow,h.mi,h.vo,h.tp,h.ou⟩
theorem NdR.setVo(h:NdR o w i n v){xs:List Int}(r:Row o (i,4) 1 RI 3 w u xs):NdR o w i {n with voters:=xs } {v with vo:=u }:=⟨h.tx,h.small,h.ba,h.di,h.ta,h.da,h.ow,h.mi,r,h.tp,h.ou⟩
theorem NdR.setTa(h:NdR o w i n v){xs:List Slot}(r:Row o (i,3) 3 RSlot 85 w u xs):NdR o w i {n with table:=xs } {v with ta:=u }:=⟨h.tx,h.small,h.ba,h.di,r,h.da,h.ow,h.mi,h.vo,h.tp,h.ou⟩
theorem NdR.setOu(h:NdR o w i n v){xs:List Msg}(r:Row o (i,5) 19 RMsgZ 90 w u xs):NdR o w i {n with out:=xs } {v with ou:=u }:=⟨h.tx,h.small,h.ba,h.di,h.ta,h.da,h.ow,h.mi,h.vo,h.tp,r⟩
end
structure NodeAt (o:Own) (w:World) (i tb g off:Nat) (n:Nd):Prop where
 mark:o g=some (8,tb)
 here:∃v:Vals,Sec w g off (ndC n v)∧NdR o w i n v
structure NFr (i tb g off:Nat) (o:Own) (w:World) (o':Own) (w':World):Prop where
 fr:Fr (fun t=>t=(8,tb)∨t.1=i) o w o' w'
 only:Only w w' g off 15
section
variable {T T':Nat×Nat→Prop} {o o' o2:Own} {w w' w2:World} {i tb g off:Nat} {n:Nd} {v:Vals}
theorem NFr.refl(a:Lim o w):NFr i tb g off o w o w:=⟨.refl _ a,.refl _ _ _ _⟩
theorem NFr.trans(h:NFr i tb g off o w o' w')(k:NFr i tb g off o' w' o2 w2):NFr i tb g off o w o2 w2:=⟨h.fr.trans k.fr (fun t ht=>.inl ht),h.only.trans k.only⟩
theorem NFr.step(h:NFr i tb g off o w o' w')(b:o' g=some (8,tb))(f:Fr T o' w' o2 w2)(hT:∀t,T t→t.1=i∨(t.1=7∧w.heap.size≤t.2))(hi:i≠8):NFr i tb g off o w o2 w2 :=
 ⟨h.fr.trans f (fun t ht=>(hT t ht).imp .inr id),h.only.trans (.of_same fun c=>(f.keep g c (fun t ht a=>by
  rw[b]at ht;injection ht with ht;subst ht
  rcases hT _ a with e|⟨e,_⟩
  ·exact hi e.symm
  ·cases e)).2)⟩
theorem NFr.below(h:NFr i tb g off o w o' w')(a:Below w'.heap.size w' w2):NFr i tb g off o w o' w2 :=
 ⟨h.fr.trans (.of_below (T:=fun _=>False) h.fr.lim a) (fun t ht=>ht.elim),h.only.trans (.of_same fun b=>a.block g b)⟩
theorem NFr.store(h:NFr i tb g off o w o' w')(b:o' g=some (8,tb))(c:w'.grownBy w2 (some g)){m:Nat}(d:Only w' w2 g (off+k) m)(n:k+m≤15):NFr i tb g off o w o' w2 :=
 ⟨h.fr.trans (.grown (T:=fun t=>t=(8,tb)) h.fr.lim c b rfl) (fun t ht=>.inl (.inl ht)),h.only.trans (fun t whole l=>by
  obtain⟨x,a,f,e⟩:=d t whole l
  exact⟨x,a,f,fun j p=>e j (by omega)⟩)⟩
theorem Zap{tg:Nat×Nat}(a:Lim o w)(c:w.grownBy w' (some g))(b:o g=some tg):Fr (fun t=>t=tg) o w o w':=.grown a c b rfl
theorem Sec.fr{cs:List Value}{tg:Nat×Nat}(h:Sec w g off cs)(f:Fr T o w o' w')(b:o g=some tg)(hT:¬T tg):Sec w' g off cs :=
 h.same (f.keep g h.lt (fun t ht a=>by rw[b]at ht;injection ht with ht;subst ht;exact hT a)).2
theorem Zb6{tg:Nat×Nat}(a:g<w.heap.size)(f:Fr T o w o' w')(c:o g=some tg)(hT:¬T tg):o' g=some tg :=
 ((f.keep g a (fun t ht b=>by rw[c]at ht;injection ht with ht;subst ht;exact hT b)).1).trans c
theorem NodeAt.fr(h:NodeAt o w i tb g off n)(f:Fr T o w o' w')(hT:∀k,¬T (i,k))(b:¬T (8,tb)):NodeAt o' w' i tb g off n:=by
 obtain⟨v,a,c⟩:=h.here;exact⟨Zb6 a.lt f h.mark b,v,a.fr f h.mark b,c.fr f hT⟩
theorem NodeAt.below(h:NodeAt o w i tb g off n)(a:Lim o w)(b:Below w.heap.size w w'):NodeAt o w' i tb g off n:=h.fr (.of_below (T:=fun _=>False) a b) (fun _ h=>h) (fun h=>h)
theorem NodeAt.lt(h:NodeAt o w i tb g off n):g<w.heap.size:=by obtain⟨v,a,_⟩:=h.here;exact a.lt
theorem Zam(a:Lim o w)(b:Below w.heap.size w w'):Lim o w':=(Fr.of_below (T:=fun _=>False) a b).lim
end
theorem Sec.nd0{n:Nd}{v:Vals}(h:Sec w g off (ndC n v)):w.cell? ⟨g,off,none⟩=some (.int .i64 n.me):=h.cell (j:=0) (show 0<15 by decide)
theorem Sec.nd1{n:Nd}{v:Vals}(h:Sec w g off (ndC n v)):w.cell? ⟨g,off+1,none⟩=some (.bool n.up):=h.cell (j:=1) (show 1<15 by decide)
theorem Sec.nd2{n:Nd}{v:Vals}(h:Sec w g off (ndC n v)):w.cell? ⟨g,off+2,none⟩=some (.int .i64 n.nx):=h.cell (j:=2) (show 2<15 by decide)
theorem Sec.nd3{n:Nd}{v:Vals}(h:Sec w g off (ndC n v)):w.cell? ⟨g,off+3,none⟩=some (v.tx):=h.cell (j:=3) (show 3<15 by decide)
theorem Sec.nd4{n:Nd}{v:Vals}(h:Sec w g off (ndC n v)):w.cell? ⟨g,off+4,none⟩=some (v.ba):=h.cell (j:=4) (show 4<15 by decide)
theorem Sec.nd5{n:Nd}{v:Vals}(h:Sec w g off (ndC n v)):w.cell? ⟨g,off+5,none⟩=some (v.di):=h.cell (j:=5) (show 5<15 by decide)
theorem Sec.nd6{n:Nd}{v:Vals}(h:Sec w g off (ndC n v)):w.cell? ⟨g,off+6,none⟩=some (v.ta):=h.cell (j:=6) (show 6<15 by decide)
theorem Sec.nd7{n:Nd}{v:Vals}(h:Sec w g off (ndC n v)):w.cell? ⟨g,off+7,none⟩=some (v.da):=h.cell (j:=7) (show 7<15 by decide)
theorem Sec.nd8{n:Nd}{v:Vals}(h:Sec w g off (ndC n v)):w.cell? ⟨g,off+8,none⟩=some (v.ow):=h.cell (j:=8) (show 8<15 by decide)
theorem Sec.nd9{n:Nd}{v:Vals}(h:Sec w g off (ndC n v)):w.cell? ⟨g,off+9,none⟩=some (v.mi):=h.cell (j:=9) (show 9<15 by decide)
theorem Sec.nd10{n:Nd}{v:Vals}(h:Sec w g off (ndC n v)):w.cell? ⟨g,off+10,none⟩=some (v.vo):=h.cell (j:=10) (show 10<15 by decide)
theorem Sec.nd11{n:Nd}{v:Vals}(h:Sec w g off (ndC n v)):w.cell? ⟨g,off+11,none⟩=some (v.tp):=h.cell (j:=11) (show 11<15 by decide)
theorem Sec.nd12{n:Nd}{v:Vals}(h:Sec w g off (ndC n v)):w.cell? ⟨g,off+12,none⟩=some (.int .i64 n.ty):=h.cell (j:=12) (show 12<15 by decide)
theorem Sec.nd13{n:Nd}{v:Vals}(h:Sec w g off (ndC n v)):w.cell? ⟨g,off+13,none⟩=some (v.ou):=h.cell (j:=13) (show 13<15 by decide)
theorem Sec.nd14{n:Nd}{v:Vals}(h:Sec w g off (ndC n v)):w.cell? ⟨g,off+14,none⟩=some (.int .i64 n.turn):=h.cell (j:=14) (show 14<15 by decide)
theorem Sec.putUp{n:Nd}{v:Vals}{b:Bool}(h:Sec w g off ((ndC n v).take 1++([Value.bool b]++(ndC n v).drop (1+[Value.bool b].length)))):Sec w g off (ndC {n with up:=b } v):=h
theorem Sec.putPool{n:Nd}{v:Vals}{x:Int}{xs:List ByteArray}(h:Sec w g off ((ndC n v).take 2++([Value.int .i64 x,u]++(ndC n v).drop (2+[Value.int .i64 x,u].length)))):Sec w g off (ndC {n with nx:=x,txs:=xs } {v with tx:=u }):=h
theorem Sec.putBa{n:Nd}{v:Vals}{xs:List Bat}(h:Sec w g off ((ndC n v).take 4++([u]++(ndC n v).drop (4+[u].length)))):Sec w g off (ndC {n with bats:=xs } {v with ba:=u }):=h
theorem Sec.putDi{n:Nd}{v:Vals}{xs:List (List UInt8)}(h:Sec w g off ((ndC n v).take 5++([u]++(ndC n v).drop (5+[u].length)))):Sec w g off (ndC {n with digs:=xs } {v with di:=u }):=h
theorem Sec.putTa{n:Nd}{v:Vals}{xs:List Slot}(h:Sec w g off ((ndC n v).take 6++([u]++(ndC n v).drop (6+[u].length)))):Sec w g off (ndC {n with table:=xs } {v with ta:=u }):=h
theorem Sec.putDa{n:Nd}{v:Vals}{xs:List Crt}(h:Sec w g off ((ndC n v).take 7++([u]++(ndC n v).drop (7+[u].length)))):Sec w g off (ndC {n with dag:=xs } {v with da:=u }):=h
theorem Sec.putOw{n:Nd}{v:Vals}{xs:Option Hdr}(h:Sec w g off ((ndC n v).take 8++([u]++(ndC n v).drop (8+[u].length)))):Sec w g off (ndC {n with own:=xs } {v with ow:=u }):=h
theorem Sec.putMi{n:Nd}{v:Vals}{xs:List UInt8}(h:Sec w g off ((ndC n v).take 9++([u]++(ndC n v).drop (9+[u].length)))):Sec w g off (ndC {n with mine:=xs } {v with mi:=u }):=h
theorem Sec.putVo{n:Nd}{v:Vals}{xs:List Int}(h:Sec w g off ((ndC n v).take 10++([u]++(ndC n v).drop (10+[u].length)))):Sec w g off (ndC {n with voters:=xs } {v with vo:=u }):=h
theorem Sec.putTp{n:Nd}{v:Vals}{y:Int}{xs:List UInt8}(h:Sec w g off ((ndC n v).take 11++([u,.int .i64 y]++(ndC n v).drop (11+[u,.int .i64 y].length)))):Sec w g off (ndC {n with tl:=xs,ty:=y } {v with tp:=u }):=h
theorem Sec.putOu{n:Nd}{v:Vals}{xs:List Msg}(h:Sec w g off ((ndC n v).take 13++([u]++(ndC n v).drop (13+[u].length)))):Sec w g off (ndC {n with out:=xs } {v with ou:=u }):=h
theorem Sec.putTurn{n:Nd}{v:Vals}{x:Int}(h:Sec w g off ((ndC n v).take 14++([Value.int .i64 x]++(ndC n v).drop (14+[Value.int .i64 x].length)))):Sec w g off (ndC {n with turn:=x } v):=h
theorem Zjl(n:Nd)(v:Vals):(ndC n v).length=15:=rfl
theorem Sec.wp_store{cs:List Value}(h:Sec w g off cs)(vs:List Value)(hi:i+vs.length≤cs.length){o:Oper}{v:Value}(f:o.op=.store t x y)(c:a.eval x=.pointer (some ⟨g,off+i,none⟩))(j:a.eval y=v)(b:(P.info? t).map (·.size)=some vs.length)(d:v.cells.toList=vs)(e:(vs.all fun u=>u.oneCell')=true)(k:∀w',Sec w' g off (cs.take i++(vs++cs.drop (i+vs.length)))→w.grownBy w' (some g)→Only w w' g (off+i) vs.length→K (a.put o.dst undef) w'):o.wp P a w K Q:=by
 have:=Sec.storeG h vs hi (P:=P) (o:=o) (a:=a) (Q:=Q) f c j b d e k
 exact this
theorem Zvn(cs:List Value)(x:Crt)(a r:Int)(ga gr:Nat)(w:World)(f:w.cell? ⟨ga,0,none⟩=some (.int .i64 a))(g:w.cell? ⟨gr,0,none⟩=some (.int .i64 r))(k:RCrt w.cell? cs x) :
 Calls prog 184 (#[.agg cs.toArray]++#[.pointer (some ⟨ga,0,none⟩),.pointer (some ⟨gr,0,none⟩)]) w fun e w'=>e=.returned (.bool (Zez a r x))∧Below w.heap.size w w':=by
 obtain⟨ub,up,uv,rfl,_,_,_⟩:=k;show Calls prog 184 #[.agg #[.int .i64 x.hdr.author,.int .i64 x.hdr.round,ub,up,uv],.pointer (some ⟨ga,0,none⟩),.pointer (some ⟨gr,0,none⟩)] w _;have b:=Zac w (.cells #[.int .i64 x.hdr.author,.int .i64 x.hdr.round,ub,up,uv] 79);have g0:=Zaa b _ _ f;have g1:=Zaa b _ _ g;have c:∀q,(x.hdr.author==a&&x.hdr.round==r)=q→Hid (Zez a r x=q):=fun q h=>h
 clear f g;generalize x.hdr.author=x0 at c b g0 g1⊢;generalize x.hdr.round=y0 at c b g0 g1⊢
 by_cases i:x0=a
 ·by_cases j:y0=r
  ·have d:=c true (by simp[i,j]);clear c;subst i j;go_enter func184,ntmps184;go_wp2;go_ret;exact⟨Zao d.out.symm,b⟩
  ·have d:=c false (by simp[j]);clear c;subst i;go_enter func184,ntmps184;go_wp2;go_ret;exact⟨Zao (by rw[d.out];simp[j]),b⟩
 ·have d:=c false (by simp[i]);clear c;go_enter func184,ntmps184;go_wp2;go_ret;exact⟨Zao d.out.symm,b⟩
theorem Zeo(i tb g off:Nat)(n:Nd)(a r:Int)(o:Own)(w:World)(hN:NodeAt o w i tb g off n) :
 Calls prog 140 #[.pointer (some ⟨g,off,none⟩),.int .i64 a,.int .i64 r] w fun e w'=>e=.returned (.bool (Zd8 n a r))∧Below w.heap.size w w':=by
 obtain⟨u,⟨vtx,vba,vdi,vta,vda,vow,vmi,vvo,vtp,vou⟩,p,k⟩:=hN;have rda:=k.da.mono RCrt.mono (Zah o w);have b:=(Zac w (.cells #[.int .i64 a] 3)).trans ((Zac (w.alloc (.cells #[.int .i64 a] 3)) (.cells #[.int .i64 r] 3)).mono (by simp));have d:=(Blk.new w 3 #[.int .i64 a]).alloc (.cells #[.int .i64 r] 3);have c:=Blk.new (w.alloc (.cells #[.int .i64 a] 3)) 3 #[.int .i64 r];have c1:((w.alloc (.cells #[.int .i64 a] 3)).alloc (.cells #[.int .i64 r] 3)).cell? ⟨w.heap.size,0,none⟩=some (.int .i64 a):=d.cell 0
 have c2:((w.alloc (.cells #[.int .i64 a] 3)).alloc (.cells #[.int .i64 r] 3)).cell? ⟨w.heap.size+1,0,none⟩=some (.int .i64 r):=by
  have:=c.cell 0;rw[show(w.alloc (.cells #[.int .i64 a] 3)).heap.size=w.heap.size+1 by simp]at this;exact this
 have s7:=Zaa b _ _ p.nd7;simp only at s7;have rda1:=rda.mono RCrt.mono (Zaa b);have m:Hid (Zd8 n a r=n.dag.any (Zez a r)):=rfl;rw[m.out];clear p k rda d c m;go_enter func140,ntmps140;go_wp2_with fail;refine(Zh2 184 #[.pointer (some ⟨w.heap.size,0,none⟩),.pointer (some ⟨w.heap.size+1,0,none⟩)] (Zez a r) (Zd1 func184 (by kernel_rfl) rfl) _ n.dag _ rda1 (fun W cs x s t=>Zvn cs x a r _ _ W (Zaa s _ _ c1) (Zaa s _ _ c2) t)).mono ?_;rintro e w1 ⟨rfl,j⟩;have f:=b.trans (j.mono b.size);obtain⟨q,l⟩:∃q,Hid (n.dag.any (Zez a r)=q):=⟨_,rfl⟩;rw[l.out];clear c1 c2 s7 rda1;go_wp2;go_ret;exact⟨Zao l.out.symm,f⟩
structure SgAt (o:Own) (w:World) (gf:Nat) (rogue:Int) (signs:List Sign):Prop where
 mark:o gf=some (8,0)
 rogue:Sec w gf 0 [.int .i64 rogue]
 signs:∃vs,Sec w gf 61 [vs]∧RSigns (Zas o w) vs signs
section
variable {o o':Own} {w w':World} {gf:Nat} {rogue:Int} {signs:List Sign} {i off:Nat} {T:Nat×Nat→Prop}
theorem SgAt.fr(h:SgAt o w gf rogue signs)(f:Fr T o w o' w')(a:¬T (8,0)):SgAt o' w' gf rogue signs:=by
 obtain⟨vs,b,c⟩:=h.signs;exact⟨Zb6 h.rogue.lt f h.mark a,h.rogue.fr f h.mark a,vs,b.fr f h.mark a,c.mono RSign.mono f.view⟩
theorem SgAt.below(h:SgAt o w gf rogue signs)(a:Lim o w)(b:Below w.heap.size w w'):SgAt o w' gf rogue signs:=h.fr (.of_below (T:=fun _=>False) a b) (fun h=>h)
theorem SgAt.node(h:SgAt o w gf rogue signs)(f:NFr i 0 gf off o w o' w')(a:o' gf=some (8,0))(b:1≤off)(c:off+15≤61):SgAt o' w' gf rogue signs:=by
 obtain⟨vs,q1,q2⟩:=h.signs;exact⟨a,h.rogue.only f.only (.inl (by simp;omega)),vs,q1.only f.only (.inr (by omega)),q2.mono RSign.mono f.fr.view⟩
end
theorem Zly(gf:Nat)(rogue:Int)(signs:List Sign)(v:Int)(s:Slot)(sd:Value)(o:Own)(w:World)(x:SgAt o w gf rogue signs)(c:Zan w.cell? sd s.digest) :
 Calls prog 135 #[.pointer (some ⟨gf,0,none⟩),.int .i64 v,.agg #[.int .i64 s.author,.int .i64 s.round,sd]] w fun e w'=>e=.returned (.bool (signed signs rogue v s))∧Below w.heap.size w w':=by
 obtain⟨B,t,vs,r,rs⟩:=x;obtain⟨sA,sc,rfl,z⟩:=id c;clear z;have a:=Zac w (.cells #[.int .i64 s.author,.int .i64 s.round,.slice sA s.digest.length sc] 85);have m:=Blk.new w 85 #[.int .i64 s.author,.int .i64 s.round,.slice sA s.digest.length sc];have c0:=Zaa a _ _ (t.cell (j:=0) (by simp));have c61:=Zaa a _ _ (r.cell (j:=0) (by simp));simp at c0 c61;have rs1:=(rs.mono RSign.mono (Zah o w)).mono RSign.mono (Zaa a);have rd1:=c.mono (Zaa a);obtain⟨W,k⟩:∃W,W=w.alloc (.cells #[.int .i64 s.author,.int .i64 s.round,.slice sA s.digest.length sc] 85):=⟨_,rfl⟩;go_enter func135,ntmps135;go_wp2_with fail;rw[←k]at a m c0 c61 rs1 rd1⊢;clear k t r rs c;obtain⟨q,n⟩:∃q,Hid (signed signs rogue v s=q):=⟨_,rfl⟩;refine Zr [16] (.q 0 (.q 1 (.q 2 (.q 3 (.q 4 (.q 5 (.q 6 (.q 7 (.q 8 (.q 9 (.q 10 (.l 11 (.q 12 (.q 13 (.q 14 (.q 15 (.qc 16 .nil))))))))))))))))) fun W3 b=>?_
 repeat((first|refine pq (h:=⟨_,fun w' f=>by(have D:=Zaa f _ _ c0;have C:=Zaa f _ _ c61;have g:=m.kept f;have u:=g.cell 0;have A:=g.cell 1;have y:=g.cell 2;simp at u A y;go_simp;exact rfl),?_⟩)|refine Zq ?_);simp only[sx])
 refine Zd fun K p=>?_
 try simp only[sy]
 go_simp;refine(Zuj _ signs rogue ⟨v,s⟩ _ _ (rs1.mono RSign.mono (Zaa b)) (rd1.mono (Zaa b))).mono ?_;rintro e w5 ⟨rfl,i⟩;have d:=b.trans (i.mono b.size);rw[show Zje signs rogue ⟨v,s⟩=q from n.out];refine p.out _ _ (d) fun f=>?_
 clear p K
 try simp only[sx]
 repeat(refine Zq ?_;simp only[sx])
 refine Zai ?_;go_wp2;go_ret;exact⟨Zao n.out.symm,a.trans (d.mono a.size)⟩
def crashA(i p:Int):At:=⟨7,i,p,ByteArray.empty⟩
def startA(i:Int):At:=⟨8,i,0,ByteArray.empty⟩
def syncA(i:Int):At:=⟨3,i,0,ByteArray.empty⟩
def takeA(p:Int):At:=⟨4,0,p,ByteArray.empty⟩
def copyA(p:Int):At:=⟨6,0,p,ByteArray.empty⟩
end Fl
end Go.Proofs.YtbcpbnfojfiekaaGreatDoor
