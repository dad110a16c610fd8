/- A part of what the last text stands on. -/
import Derived.RangeFuncBox
import Derived.RangeFuncLeaves
import Derived.OwnWalkIn
import Derived.TacticsInMore
import Derived.LoopNIn
import Derived.LoopIn
import Derived.Sort.OwnSortedInts
import Derived.Test.YtbcpbnfojfiekaaGreatDoorK22
import Derived.Test.YtbcpbnfojfiekaaGreatDoorK28
namespace Go.Proofs.YtbcpbnfojfiekaaGreatDoor
open Go.ChangeShapes Go.WideShapes Go.ChangeAt Go.RowKit Go.Proofs.Tryz Qa Qb Qc
set_option linter.all false
set_option maxHeartbeats 20000000
set_option maxRecDepth 100000
variable{k:Nat}{α:Type}
section
open Go.Shelf
attribute [local go_sem] Oper.semAt_some
namespace Fls
def upto(f:Nat→α)(k:Nat):List α:=(List.range k).map f
theorem upto_succ(f:Nat→α)(k:Nat):upto f (k+1)=upto f k++[f k]:=by simp[upto,List.range_succ]
theorem Zrd(f:Nat→α)(k:Nat):(upto f k).length=k:=by simp[upto]
theorem Zzb(zs:List Int):upto (fun j=>zs[j]?.getD 0) zs.length=zs:=by
 apply List.ext_getElem
 ·simp[upto]
 ·intro i b a;simp[upto,a]
theorem Zv6(zs:List Int)(b:k≤zs.length):upto (fun j=>zs[j]?.getD 0) k=zs.take k:=by
 apply List.ext_getElem
 ·simp[upto,b]
 ·intro i a c;have:i<zs.length:=by simp[upto]at a;omega
  simp[upto,this]
theorem Zue(F:Fence)(n:Nat)(B:F.fn 188)(m:F.round=none)(hn:1≤n)(l Bs n₀ b off len cap:Nat)(zs:List Int)(g:len*8≤140737488351232)(A:b<n₀)(J Jx:List Int→World→Prop)(y:∀pre x W,J pre W→pre.length<len→YieldAt F (n-1) prog l #[.int .i64 x] W fun e W' => (e=.returned (.bool true)∧J (pre++[x]) W'∧Below n₀ W W')∨(e=.returned (.bool false)∧Jx (pre++[x]) W'))(W:World)(z:W.cell? ⟨Bs,0,none⟩=some (.slice (some ⟨b,off,none⟩) len cap))(u:∀j,j<len→W.cell? ⟨b,off+j,none⟩=some (.int .i64 (zs[j]?.getD 0)))(t:J [] W) :
 CallsIn F n prog 188 #[.func (.yield l) #[] #[],.pointer (some ⟨Bs,0,none⟩)] W fun e W'=>(∃v,e=.returned v) ∧
  ((∃ys,ys=upto (fun j=>zs[j]?.getD 0) len∧J ys W')∨(∃pre,(∃k,k≤len∧pre=upto (fun j=>zs[j]?.getD 0) k)∧Jx pre W')):=by
 refine callsIn_of_wp func188 rfl B ?_ m;simp only[ntmps188,List.size_toArray,Zu,List.length_nil,Nat.reduceAdd,Nat.reduceSub,Array.replicate_succ,Array.replicate_zero,List.push_toArray,List.append_toArray,List.nil_append,List.cons_append]
 gi_wp2
 gi_loopw [7] (fun i wr=>∃k:Nat,k≤len∧i=.int .i64 k∧J (upto (fun j=>zs[j]?.getD 0) k) wr∧Below n₀ W wr)
  (fun i _=>len-(intOf i).toNat)
 case atStart=>exact⟨0,Zf _,rfl,t,Zm _ _⟩
 case round =>
  obtain⟨k,D,rfl,f,d⟩:=hrel;have r:k<len→wr.cell? ⟨b,off+k,none⟩=some (.int .i64 (zs[k]?.getD 0)):=fun h=>(d.cell (p:=⟨b,off+k,none⟩) A).trans (u k h)
  by_cases a:k<len
  ·obtain⟨fn,tmps,assign,body,C,w⟩:=y _ (zs[k]?.getD 0) wr f (by rw[Zrd];exact a);have s:=r a
   gi_wp2
   refine w.mono ?_;rintro e W3 (⟨rfl,o,q⟩|⟨rfl,c⟩)
   ·gi_wp2
    go_roundw
    case rel=>exact⟨k+1,by omega,by simp,by rw[upto_succ];exact o,d.trans q⟩
    case measure=>simp[intOf];omega
   ·gi_wp2
    refine bodyPost_ret (results_none rfl _ _ _) rfl ?_;exact⟨⟨_,rfl⟩,.inr ⟨_,⟨k+1,by omega,(upto_succ _ _).symm⟩,c⟩⟩
  ·obtain rfl:k=len:=by omega
   gi_wp2
   go_end0;exact⟨⟨_,rfl⟩,.inl ⟨_,rfl,f⟩⟩
def Ints(n₀:Nat)(W:World)(sv:Value)(zs:List Int):Prop :=
 (sv=.slice none 0 0∧zs=[])∨∃b off cap,sv=.slice (some ⟨b,off,none⟩) zs.length cap∧b<n₀∧∀j,j<zs.length→W.cell? ⟨b,off+j,none⟩=some (.int .i64 (zs[j]?.getD 0))
theorem Ints.below{n₀:Nat}{A B:World}(h:Below n₀ A B){sv:Value}{zs:List Int}:Ints n₀ A sv zs→Ints n₀ B sv zs
 |.inl e=>.inl e
 |.inr ⟨b,off,cap,e,a,d⟩=>.inr ⟨b,off,cap,e,a,fun j c=>(h.cell (p:=⟨b,off+j,none⟩) a).trans (d j c)⟩
theorem Zmr(F:Fence)(n:Nat)(f:F.fn 188)(a:F.round=none)(l Bs:Nat)(J:List Int→World→Prop)(W:World)(d:W.cell? ⟨Bs,0,none⟩=some (.slice none 0 0))(c:J [] W) :
 CallsIn F n prog 188 #[.func (.yield l) #[] #[],.pointer (some ⟨Bs,0,none⟩)] W fun e W'=>(∃v,e=.returned v)∧J [] W':=by
 refine callsIn_of_wp func188 rfl f ?_ a;simp only[ntmps188,List.size_toArray,Zu,List.length_nil,Nat.reduceAdd,Nat.reduceSub,Array.replicate_succ,Array.replicate_zero,List.push_toArray,List.append_toArray,List.nil_append,List.cons_append]
 gi_wp2
 gi_loopw [7] (fun i wr=>i=.int .i64 0∧J [] wr) (fun _ _=>0)
 case atStart=>exact⟨rfl,c⟩
 case round =>
  obtain⟨rfl,b⟩:=hrel
  gi_wp2
  go_end0;exact⟨⟨_,rfl⟩,b⟩
theorem values_in(F:Fence)(n:Nat)(c:F.fn 143)(b:F.round=none)(a:Option Addr)(len cap:Nat)(w:World) :
 CallsIn F n prog 143 #[.slice a len cap] w fun e w'=>e=.returned (.func (.func 188) #[] #[.pointer (some ⟨w.heap.size,0,none⟩)])∧w'=w.alloc (.cells #[.slice a len cap] 77):=by
 refine callsIn_of_wp func143 rfl c ?_ b;simp only[ntmps143,List.size_toArray,Zu,List.length_nil,Nat.reduceAdd,Nat.reduceSub,Array.replicate_succ,Array.replicate_zero,List.push_toArray,List.append_toArray,List.nil_append,List.cons_append]
 gi_wp2
 go_ret;exact⟨rfl,rfl⟩
theorem Zpk(F:Fence)(n:Nat)(q:F.fn 188)(c:F.round=none)(hn:1≤n)(Bs n₀:Nat)(sv:Value)(zs:List Int)(a:zs.length*8≤140737488351232)(w:World)(m:Bs<w.heap.size)(j:n₀≤w.heap.size)(v:w.cell? ⟨Bs,0,none⟩=some sv)(u:Ints n₀ w sv zs) :
 SeqStopsK F n prog 188 #[.pointer (some ⟨Bs,0,none⟩)] (fun x:Int=>#[Value.int .i64 x]) (Below n₀) (fun ys=>ys=zs) (fun pre=>pre <+: zs) zs.length w:=fun l J Jx W r _ _ t o=>by
 have f:=(r.cell (p:=⟨Bs,0,none⟩) m).trans v
 rcases u.below (r.mono j)with ⟨rfl,rfl⟩|⟨b,off,cap,rfl,y,i⟩
 ·exact(Zmr F n q c l Bs J W f o).mono fun e W' ⟨g,d⟩=>⟨g,.inl ⟨_,rfl,d⟩⟩
 ·refine(Zue F n q c hn l Bs n₀ b off zs.length cap zs a y J Jx t W f i o).mono ?_
  rintro e W' ⟨g,⟨ys,rfl,d⟩|⟨pre,⟨k,s,rfl⟩,d⟩⟩
  ·exact⟨g,.inl ⟨_,Zzb zs,d⟩⟩
  ·exact⟨g,.inr ⟨_,by rw[Zv6 zs s];exact List.take_prefix _ _,d⟩⟩
theorem infoI:(prog.info? 3).map (fun i=>(i.zero,i.size,i.bytes))=some (some (.int .i64 0),1,8):=by kernel_rfl
theorem Zq5(F:Fence)(n:Nat)(N:F.fn 213)(G:F.fn 188)(g:F.round=none)(hn:3≤n)(Bs:Nat)(sv:Value)(zs:List Int)(d:zs.length*8≤140737488351232)(E:zs.length≤maxLen)(w:World)(B:Bs<w.heap.size)(u:w.cell? ⟨Bs,0,none⟩=some sv)(I:Ints w.heap.size w sv zs) :
 CallsIn F n prog 213 #[.slice none 0 0,.func (.func 188) #[] #[.pointer (some ⟨Bs,0,none⟩)]] w fun e W'=>∃v,e=.returned v∧W'.ownsRow w.heap.size 3 1 v zs.length (zs.map (Value.int .i64))∧(v=.slice none 0 0↔zs=[])∧Below w.heap.size w W':=by
 have J:1≤n:=by omega
 obtain⟨i0,hi,z,s,A⟩:=info_parts infoI;refine callsIn_of_wp_marks func213 rfl N ?_ g;simp only[ntmps213,List.size_toArray,Zu,List.length_nil,Nat.reduceAdd,Nat.reduceSub,Array.replicate_succ,Array.replicate_zero,List.push_toArray,List.append_toArray,List.nil_append,List.cons_append]
 gi_wp2
 have bO:=Boxed.new w 77 (.slice none 0 0);have j:Below w.heap.size w (w.alloc (.cells #[.slice none 0 0] 77)):=(Zm _ w).alloc (Za _) _
 refine wpIn_rangeFunc_ownG g J (gf:=188) (lb:=#[.pointer (some ⟨Bs,0,none⟩)]) rfl G (enters_of func188 (by kernel_rfl) rfl)
  (Zpk F (n-1) G g (by omega) Bs w.heap.size sv zs d _ (by simp;omega) (by simp) ((j.cell (p:=⟨Bs,0,none⟩) B).trans u) (I.below j)) belowK_t (belowK_b (by simp)) (Zm _ _) (fun _=>rfl)
  (fun pre W=>(∃v,Boxed W w.heap.size 77 v∧W.ownsRow w.heap.size 3 1 v pre.length (pre.map (Value.int .i64))∧(v=.slice none 0 0↔pre=[]))∧Below w.heap.size w W)
  (fun _ _ _=>False)
  (OwnFrom.and (Own.from (holdsRow_own w.heap.size w.heap.size 77 3 1 (fun pre=>pre.length) (fun pre=>pre.map (Value.int .i64)) (fun pre v=>v=.slice none 0 0↔pre=[])) _) (ownFrom_below (Za _) (by simp)))
  (fun _ _ _ _ _ O _ _=>O)
  ⟨⟨_,bO,World.ownsRow_nil _ _ _ _,by simp⟩,j⟩
  (fun x=>{ tmps:=#[.slice none 0 0,.func (.func 188) #[] #[.pointer (some ⟨Bs,0,none⟩)],.pointer (some ⟨w.heap.size,0,none⟩),undef,.slice none 0 0,.int .i64 x,.func (.func 188) #[] #[.pointer (some ⟨Bs,0,none⟩)],.int .i64 x,undef,undef,undef,undef,undef],defers:=[] }) ?assign ?body ?done ?stop
 case assign =>
  intro l x W K o
  gi_wp2
  exact o
 case body =>
  rintro l pre x W ⟨⟨v,r,a,f⟩,m⟩ H;have u:=r.cell
  gi_wp2_with (gi_at_builtin;refine wpListIn_append_own _ rfl _ _ 77 rfl w.heap.size 3 i0 (.int .i64 0) 1 8 underlying77 hi z s A rfl (by decide) _ _ _ rfl (a.alloc _) ⟨W.heap.size,0,none⟩ 1 1 [.int .i64 x] rfl rfl (cell_one_new _ _ _) (by simp[Value.oneCell']) (by omega) (by omega) (by have:=m.size;simp;omega) ?_;intro v' w1 b i _;obtain⟨g',cap',rfl⟩:=ownsRow_succ b;obtain⟨q,t,C,y,k⟩:=r.appended (by decide) a m.size (Za _) b i;have L:=q.cell;have M:=q.frozen)
  exact⟨y.from _,k,⟨_,t,by simpa using C,by simp⟩,m.trans k⟩
 case done =>
  rintro D ys W hD rfl ⟨⟨v,r,a,f⟩,m⟩ o;have u:=r.cell
  gi_wp2
  refine⟨by simp,.inl ⟨_,_,rfl,run_takeDeferred o,?_⟩⟩;exact⟨_,results_tmp rfl _ _ _,v,rfl,ownsRow_putObj a _ o rfl,f,m.trans (belowK_b (w:=w) (Za _) W D _ _ (by simp at hD;omega) o rfl rfl)⟩
 case stop =>
  rintro D c pre W _ _ h _;exact h.elim
theorem Zvk(F:Fence)(n:Nat)(m:F.fn 186)(k:F.fn 213)(j:F.fn 188)(d:F.round=none)(hn:4≤n)(Bs:Nat)(sv:Value)(zs:List Int)(a:zs.length*8≤140737488351232)(b:zs.length≤maxLen)(w:World)(g:Bs<w.heap.size)(o:w.cell? ⟨Bs,0,none⟩=some sv)(l:Ints w.heap.size w sv zs) :
 CallsIn F n prog 186 #[.func (.func 188) #[] #[.pointer (some ⟨Bs,0,none⟩)]] w fun e W'=>∃v,e=.returned v∧W'.ownsRow w.heap.size 3 1 v zs.length (zs.map (Value.int .i64))∧(v=.slice none 0 0↔zs=[])∧Below w.heap.size w W':=by
 refine callsIn_of_wp func186 rfl m ?_ d;simp only[ntmps186,List.size_toArray,Zu,List.length_nil,Nat.reduceAdd,Nat.reduceSub,Array.replicate_succ,Array.replicate_zero,List.push_toArray,List.append_toArray,List.nil_append,List.cons_append]
 gi_wp2
 refine⟨fun _=>by omega,(Zq5 F (n-1) k j d (by omega) Bs sv zs a b _ g o l).mono ?_⟩;rintro e W ⟨v,rfl,c,f,i⟩
 gi_wp2
 go_ret;exact⟨v,rfl,c,f,i⟩
end Fls
end
section
open Go.Shelf Go.Sort
attribute [local go_sem] Oper.semAt_some
namespace Fls
theorem sorted_in(Bs:Nat)(sv:Value)(zs:List Int)(b:zs.length*8≤140737488351232)(f:zs.length≤maxLen)(w:World)(l:Bs<w.heap.size)(u:w.cell? ⟨Bs,0,none⟩=some sv)(s:Ints w.heap.size w sv zs) :
 Calls prog 142 #[.func (.func 188) #[] #[.pointer (some ⟨Bs,0,none⟩)]] w fun e W'=>∃v,e=.returned v∧W'.ownsRow w.heap.size 3 1 v zs.length ((zs.mergeSort (fun x y=>decide (x≤y))).map (Value.int .i64))∧Below w.heap.size w W':=by
 have g:=(callsIn_wide (n:=6)).1 (Zvk Fence.wide 6 trivial trivial trivial rfl (by omega) Bs sv zs b f w l u s);go_enter func142,ntmps142;go_wp2_with fail;refine g.mono ?_;rintro e W ⟨v,rfl,c,p,k⟩
 rcases c.2 with ⟨rfl,r⟩|⟨gb,cap,cur,rfl,a,d,r1,r2,r3,r4⟩
 ·have i:zs=[]:=List.eq_nil_of_length_eq_zero r;subst i;go_wp2_with fail;refine(slices_Sort_int_none none 0 W).mono ?_;rintro e w' ⟨rfl,rfl⟩;go_wp2;go_ret;exact⟨_,rfl,by simpa using c,k⟩
 ·have t:Holds (Value.int .i64) W gb 0 zs.toArray:=holds_of_blockI d (by simpa using r4);have o:gb<W.heap.size:=(Array.getElem?_eq_some_iff.1 d).1;have m:zs.length<4611686018427387904:=by omega
  go_wp2_with fail;refine(slices_Sort_int gb 0 cap zs W t o m).mono ?_
  rintro e w' ⟨rfl,nn,os,rfl⟩;go_wp2;go_ret;exact⟨_,rfl,ownsRow_sortedI (by simp) a d r1 r2 r3,k.grown (grownBy_sortedI _) k.size (fun j q=>by cases q;exact a)⟩
end Fls
end
end Go.Proofs.YtbcpbnfojfiekaaGreatDoor
