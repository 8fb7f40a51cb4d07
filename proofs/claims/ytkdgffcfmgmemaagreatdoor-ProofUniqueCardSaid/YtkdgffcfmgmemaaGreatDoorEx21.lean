/- Walking by chunks: a row of elements of several cells behind a sort with a function. No function of the program is named. -/
import Derived.Test.YtkdgffcfmgmemaaGreatDoorEz
import Derived.Test.YtkdgffcfmgmemaaGreatDoorEx20
import Derived.Shelf.GgSortFunc.RowK
import Derived.Shelf.GgSortFunc.InsertionK
set_option linter.unusedVariables false
set_option linter.unusedSimpArgs false
namespace Gw
open Go Go.RowKit Go.Sort
theorem WZ{α:Type}(f:α→List Value)(k:Nat)(hk:∀x,(f x).length=k):∀(l:List α) (i r:Nat) (a:α),l[i]?=some a→r<k→(l.flatMap f)[i*k+r]?=(f a)[r]?
 |[],i,r,a,h,_=>by simp at h
 |x::l,0,r,a,h,hr=>by
  simp only [vv,wZ]at h;subst h;rw [ui,yA,uL,xE (by rw [hk];exact hr)]
 |x::l,i+1,r,a,h,hr=>by
  simp only [wI]at h;rw [ui,vQ (by rw [hk,wC];omega),hk,show(i+1)*k+r -k=i*k+r by rw [wC];omega];exact WZ f k hk l i r a h hr
theorem WY{α:Type}(f:α→List Value)(k:Nat)(hk:∀x,(f x).length=k):∀(l:List α),(l.flatMap f).length=l.length*k
 |[]=>by simp
 |x::l=>by rw [ui,tK,WY f k hk l,hk,tY,wC];omega
theorem Qv{α:Type} [Inhabited α](f:α→List Value)(k:Nat)(hk:∀x,(f x).length=k)(l:List α):(flatK f k l.toArray).toList=l.flatMap f:=by
 apply vg;intro t;by_cases ht:t<l.length*k
 · have k0:0<k:=by
    rcases vJ k with h|h
    · subst h;simp at ht
    · exact h
   have h1:t/k<l.length:=zF (by rwa [AA4]at ht);have h2:t%k<k:=AA3 _ k0
   have e:=WZ f k hk l (t/k) (t%k) l[t/k] (tF h1) h2;rw [Nat.div_add_mod' t k]at e;rw [e];have h3:t%k<(f l[t/k]).length:=by rw [hk];exact h2
   unfold flatK;rw [uO];simp [ht,h1,h3]
 · rw [uq (by simp;omega),uq (by rw [WY f k hk];omega)]
theorem YK{α:Type} [Inhabited α]{w:World}{g:Nat}{cur:Array Value}{e:TypeId}{z:Nat×Nat}(f:α→List Value)(k:Nat)(hk:∀x,(f x).length=k)(l:List α)(hb:w.heap[g]?=some (.cells cur e z))(hle:l.length*k≤cur.size)(hfr:KY z cur.size)(ht:cur.toList.take (l.length*k)=l.flatMap f):HoldsK f k w g 0 l.toArray:=by
 intro j hj;have hj':j<l.length*k:=by simpa using hj
 have hf:=hfr j (by omega);have h0:=Qv f k hk l
 have h1:(cur.toList.take (l.length*k))[j]?=(flatK f k l.toArray).toList[j]?:=by rw [ht,h0]
 rw [zY hj',uO,uO]at h1;refine ⟨?_,?_⟩
 · simp only [World.cell?,hb,uL]
   simp only [Option.isSome_none,vH,if_false];rw [h1,tu hj,getElem!_pos _ j hj];rfl
 · simp only [World.frozen?,hb,uL]
   simp;omega
theorem bO(cur F:Array Value)(h:F.size≤cur.size):(putCells id 0 F cur).toList.take F.size=F.toList:=by
 apply vg;intro j;rw [uX];by_cases hj:j<F.size
 · rw [if_pos hj,uO]
   unfold putCells;rw [Array.getElem?_mapIdx,tu (by omega)];simp [hj]
 · rw [if_neg hj,uq (by simp;omega)]
theorem Sl(cur F:Array Value):(putCells id 0 F cur).size=cur.size:=by simp [putCells]
theorem Sat.sortedK{α:Type} [Inhabited α]{u w:World}{g n k:Nat}{cur:Array Value}{e:TypeId}{z:Nat×Nat}{R:Hp}(f:α→List Value)(d:Array α)(os:Array Obj)(h:Sat u ([(g,.cells cur e z)]::R) w):Sat u ([(g,.cells (putCells id 0 (flatK f k d) cur) e z)]::R) (Go.Proofs.sortWorldK f k w g 0 n d os):=by
 have hb:=h.get (g,.cells cur e z) (by simp);have h1:Sat u ([(g,.cells (putCells id 0 (flatK f k d) cur) e z)]::R) (putRowK f k (Sort.ahead w n) g 0 d):=by
  refine h.upd (.here _) rfl rfl rfl ?_ fun k hk=>?_
  · simp [putRowK,putRow,mapBlock,Sort.ahead,vU,hb,onCells]
  · have:g≠k:=fun e=>hk e.symm
    simp [putRowK,putRow,mapBlock,Sort.ahead,vU,this]
 exact h1.below ⟨rfl,rfl,rfl,by simp [Go.Proofs.sortWorldK,grow],fun k hk=>heap_grow_old _ _ hk⟩
theorem Nu{α:Type} [Inhabited α](f:α→List Value)(k:Nat)(w:World)(g n b:Nat)(d:Array α)(os:Array Obj)(hne:g≠b)(hb:b<w.heap.size):(Go.Proofs.sortWorldK f k w g 0 n d os).heap[b]?=w.heap[b]?:=by
 have h1:(putRowK f k (Sort.ahead w n) g 0 d).heap[b]?=w.heap[b]?:=by
  simp [putRowK,putRow,mapBlock,Sort.ahead,vU,hne]
 unfold Go.Proofs.sortWorldK;rw [←h1];refine heap_grow_old _ _ ?_;simpa [putRowK,putRow,mapBlock,Sort.ahead]using hb
end Gw
