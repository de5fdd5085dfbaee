/- What is proved: what functions of this program answer, by the evaluator. No condition. -/
import Derived.Test.YtdnmhlfjafjkbaaGreatDoorEv2
import Derived.Test.YtdnmhlfjafjkbaaGreatDoorProg
import Derived.RangeFuncGives
import Derived.RangeFuncBox
import Derived.RangeFuncLeaves
import Derived.Shelf.Abstract
import Derived.WalkKit
import Derived.OwnWalkIn
import Derived.TacticsInMore
import Derived.LoopNIn
import Derived.LoopIn
set_option linter.all false
set_option linter.all false
namespace Go.Proofs.YtdnmhlfjafjkbaaGreatDoor.Sq
open Go Go.RowKit Go.Shelf Go.Ev Go.Proofs
attribute [local go_sem] Oper.semAt_some
abbrev cel (x:Int):Value:=.int .u8 x
abbrev val (x:Int):Value:=.agg #[.int .u8 x]
def upto {α:Type} (f:Nat→α) (k:Nat):List α:=(List.range k).map f
theorem zip {α:Type} (f:Nat→α)(k:Nat):upto f (k+1)=upto f k++ [f k]:=by simp [upto,List.range_succ]
theorem zg3 {α:Type} (f:Nat→α)(k:Nat):(upto f k).length=k:=by simp [upto]
set_option maxRecDepth 100000 in
set_option maxHeartbeats 2000000 in
theorem zno (F:Fence)(n:Nat)(h7:F.fn 170)(hro:F.round=none)(hn:1≤n)(l Bs n₀ b off len cap:Nat)(zs:Nat→Int)(hreach:len*8≤140737488351232)(hb:b<n₀)(J:List Int→World→Prop)
  (hJ: ∀s W W',J s W→W.grownBy W' none→J s W') (hsz: ∀s W,J s W→n₀≤W.heap.size)
  (hY: ∀pre x W,J pre W→pre.length<len→YieldAt F (n-1) Tryz.prog l #[val x] W fun e W'=>e=.returned (.bool true)∧J (pre++ [x]) W'∧Below n₀ W W')
  (W:World) (hBs:W.cell? ⟨Bs,0,none⟩=some (.slice (some ⟨b,off,none⟩) len cap)) (hc: ∀j,j<len→W.cell? ⟨b,off+j,none⟩=some (cel (zs j))) (h0:J [] W):
  CallsIn F n Tryz.prog 170 #[.func (.yield l) #[] #[],.pointer (some ⟨Bs,0,none⟩)] W fun e W'=>(∃v,e=.returned v)∧J (upto zs len) W':=by
 refine callsIn_of_wp Tryz.func170 rfl h7 ?_ hro
 simp only [Tryz.ntmps170,List.size_toArray,List.length_cons,List.length_nil,Nat.reduceAdd,Nat.reduceSub,Array.replicate_succ,Array.replicate_zero,List.push_toArray,List.append_toArray,List.nil_append,List.cons_append]
 gi_wp2
 gi_loopw [7] (fun i wr=> ∃k:Nat,k≤len∧i=.int .i64 k∧J (upto zs k) wr∧Below n₀ W wr)
  (fun i _=>len-(intOf i).toNat)
 case atStart=>exact ⟨0,Nat.zero_le _,rfl,h0,Below.refl _ _⟩
 case round=>
  obtain ⟨k,hk,rfl,hJs,hnx⟩:=hrel
  have hcx:k<len→wr.cell? ⟨b,off+k,none⟩=some (cel (zs k)):=fun h=>(hnx.cell (p:=⟨b,off+k,none⟩) hb).trans (hc k h)
  by_cases hlt:k<len
  ·have hcx':=hcx hlt
   obtain ⟨fn,tmps,assign,body,hy,hR⟩:=hY _ (zs k) (wr.alloc (.cells #[cel (zs k)] 107)) (hJ _ _ _ hJs (World.grownBy_alloc wr _ none)) (by rw [zg3];exact hlt)
   have hb4:=hnx.alloc (hsz _ _ hJs) (.cells #[cel (zs k)] 107)
   gi_wp2
   refine hR.mono ?_
   rintro e W3 ⟨rfl,hJ3,hk3⟩
   gi_wp2
   go_roundw
   case rel=>exact ⟨k+1,by omega,by simp,by rw [zip];exact hJ3,hb4.trans hk3⟩
   case measure=>simp [intOf];omega
  ·obtain rfl:k=len:=by omega
   gi_wp2
   go_end0
   exact ⟨⟨_,rfl⟩,hJs⟩
end Go.Proofs.YtdnmhlfjafjkbaaGreatDoor.Sq
