/- The comparator of chosen, to the world. -/
/- What the sort does with it. -/
import Derived.Test.YtkdgffcfmgmemaaGreatDoorEz
import Derived.Test.YtkdgffcfmgmemaaGreatDoorKs10
import Derived.Test.YtkdgffcfmgmemaaGreatDoorLin2
import Derived.Test.YtkdgffcfmgmemaaGreatDoorSort
import Derived.Test.YtkdgffcfmgmemaaGreatDoorEx21
import Derived.Shelf.SlSortCmp.NoneTotal
set_option linter.unusedVariables false
set_option linter.unusedSimpArgs false
namespace Go.Proofs.YtkdgffcfmgmemaaGreatDoor
open Go.Proofs.Tryz
open Go Go.RowKit Gw
set_option maxRecDepth 100000
attribute [local irreducible] Gw.At Gw.Nx Gw.Ops
open Go.Sort Go.Shelf
attribute [local go_sem] Gl.evalE Gl.lookE Gl.linUpon Gl.wantedE Gl.yieldE Gl.putE
def fB(c:Nat)(a b:AP):Int:=orL (Lib.compareInt (Be a (c:Int)) (Be b (c:Int))) (Lib.compareInt a.k b.k)
def Stg(W:World)(n:Nat)(w:World):Prop:=∃q os,os.size=n∧w=grow (W.drewN q) os
theorem lY(W:World):Stg W 0 W:=⟨0,#[],rfl,by simp [World.drewN]⟩
theorem gM{W w:World}{n:Nat}(h:Stg W n w):Stg W n w.drew:=by
 obtain ⟨q,os,rfl,rfl⟩:=h;exact ⟨q+1,os,rfl,rfl⟩
theorem Ms{W w:World}{n:Nat}(h:Stg W n w)(q':Nat)(os':Array Obj):Stg W (n+os'.size) (grow (w.drewN q') os'):=by
 obtain ⟨q,os,rfl,rfl⟩:=h;refine ⟨q+q',os++os',by simp,?_⟩;simp [grow,World.drewN,Array.append_assoc,yP]
theorem HY{W w:World}{n b:Nat}{o:Obj}(h:Stg W n w)(hb:W.heap[b]?=some o):w.heap[b]?=some o:=by
 obtain ⟨q,os,rfl,rfl⟩:=h;have hlt:=(u7.1 hb).1
 show(W.heap++os)[b]?=_;rw [wS hlt];exact hb
theorem gL{W w:World}{n:Nat}(h:Stg W n w):w.heap.size=W.heap.size+n:=by
 obtain ⟨q,os,rfl,rfl⟩:=h;show(W.heap++os).size=_
 simp
theorem OZ(w:World)(o:Obj):(w.alloc o).heap[w.heap.size]?=some o:=by
 show(w.heap.push o)[w.heap.size]?=some o;exact Array.getElem?_push_size
theorem Yp(w:World)(o:Obj):(w.alloc o).heap.size=w.heap.size+1:=zL _
def sG:Nat→Nat
 |0=>0|1=>1|2=>2|3=>2|4=>2|5=>3|_=>3
def su(W:World)(T:Nat)(x y:Int)(k:Nat)(w:World):Prop:=Stg W (sG k) w∧(5≤k→w.heap[W.heap.size+2]?=some (.cells #[I4 x,I4 y] T (0,0)))
set_option maxHeartbeats 2000000 in
theorem fA(a b:AP)(c:Nat)(hc:c≤3)(cb:Nat)(W:World)(hcb:W.heap[cb]?=some (.cells #[I4 (c:Int)] 3 (0,0))):Calls Tryz.prog 210 #[.agg #[I4 a.t,I4 a.k,I4 a.v.a,I4 a.v.b,I4 a.v.c],.agg #[I4 b.t,I4 b.k,I4 b.v.a,I4 b.v.b,I4 b.v.c],I5 cb] W fun e w'=>e= .returned (I4 (fB c a b))∧∃q os',w'=grow (W.drewN q) os':=by
 have hlt:=(u7.1 hcb).1
 go_enter func210,ntmps210
 go_wp2
 generalize hW2:(W.alloc _).alloc _=W2;have hS0:Stg W 2 W2:=by
  rw [←hW2,alloc_eq_grow,alloc_eq_grow,grow_grow];exact ⟨0,_,rfl,rfl⟩
 have hS1:Stg (W.alloc (.cells #[I4 a.t,I4 a.k,I4 a.v.a,I4 a.v.b,I4 a.v.c] 113 (0,0))) 1 W2:=by
  rw [←hW2,alloc_eq_grow _ (.cells #[I4 b.t,I4 b.k,I4 b.v.a,I4 b.v.b,I4 b.v.c] 113 (0,0))];exact ⟨0,_,rfl,rfl⟩
 have hA:=HY hS1 (OZ _ _);have hB:W2.heap[W.heap.size+1]?=some (.cells #[I4 b.t,I4 b.k,I4 b.v.a,I4 b.v.b,I4 b.v.c] 113 (0,0)):=by
  rw [←hW2,←Yp W (.cells #[I4 a.t,I4 a.k,I4 a.v.a,I4 a.v.b,I4 a.v.c] 113 (0,0))];exact OZ _ _
 have hC:=HY hS0 hcb;refine Gl.wp_region_lin [false,false,true,false,false,true,true,false,false,false,false,true,true,true,false] (su W2 3 (Lib.compareInt (Be a (c:Int)) (Be b (c:Int))) (Lib.compareInt a.k b.k)) 20 rfl (by kernel_rfl) (by kernel_rfl) ⟨gM (lY W2),fun h=>absurd h (by decide)⟩ ?_;intro fr hfr;have HFR:=Lib.hid hfr
 have e2:fr.tmps.getD 2 undef=I5 cb:=by rw [hfr];rfl
 have e3:fr.tmps.getD 3 undef= .pointer (some ⟨W.heap.size,0,none⟩):=by rw [hfr];rfl
 have e4:fr.tmps.getD 4 undef= .pointer (some ⟨W.heap.size+1,0,none⟩):=by rw [hfr];rfl
 clear hfr;apply Gl.wpLin_keep
 · intro j wj hj K hK
   have hb:=HY hj.1 hA;have c0:=Cg (i:=0) hb rfl
   have c1:=Cg (i:=1) hb rfl;have c2:=Cg (i:=2) hb rfl
   have c3:=Cg (i:=3) hb rfl;have c4:=Cg (i:=4) hb rfl
   go_simp
   exact hK _ hj
 apply Gl.wpLin_keep
 · intro j wj hj K hK
   have c0:=Cg (i:=0) (HY hj.1 hC) rfl
   go_simp
   exact hK _ hj
 apply Gl.wpLin_move
 · intro wj hj K hK
   go_simp
   exact (JA a (c:Int) (by omega) _).mono (by
    rintro e w' ⟨rfl,q,o,rfl⟩;exact ⟨_,rfl,hK _ ⟨Ms hj.1 q #[o],fun h=>absurd h (by decide)⟩⟩)
 apply Gl.wpLin_keep
 · intro j wj hj K hK
   have hb:=HY hj.1 hB;have c0:=Cg (i:=0) hb rfl
   have c1:=Cg (i:=1) hb rfl;have c2:=Cg (i:=2) hb rfl
   have c3:=Cg (i:=3) hb rfl;have c4:=Cg (i:=4) hb rfl
   go_simp
   exact hK _ hj
 apply Gl.wpLin_keep
 · intro j wj hj K hK
   have c0:=Cg (i:=0) (HY hj.1 hC) rfl
   go_simp
   exact hK _ hj
 apply Gl.wpLin_move
 · intro wj hj K hK
   go_simp
   exact (JA b (c:Int) (by omega) _).mono (by
    rintro e w' ⟨rfl,q,o,rfl⟩;exact ⟨_,rfl,hK _ ⟨Ms hj.1 q #[o],fun h=>absurd h (by decide)⟩⟩)
 apply Gl.wpLin_move
 · intro wj hj K hK
   go_simp
   exact (Tryz.cmp_Compare_int _ _ _).mono (by
    rintro e w' ⟨rfl,rfl⟩;exact ⟨_,rfl,hK _ ⟨hj.1,fun h=>absurd h (by decide)⟩⟩)
 apply Gl.wpLin_keep
 · intro j wj hj K hK
   go_simp
   exact hK _ hj
 apply Gl.wpLin_keep
 · intro j wj hj K hK
   have c1:=Cg (i:=1) (HY hj.1 hA) rfl
   go_simp
   exact hK _ hj
 apply Gl.wpLin_keep
 · intro j wj hj K hK
   go_simp
   exact hK _ hj
 apply Gl.wpLin_keep
 · intro j wj hj K hK
   have c1:=Cg (i:=1) (HY hj.1 hB) rfl
   go_simp
   exact hK _ hj
 apply Gl.wpLin_move
 · intro wj hj K hK
   go_simp
   exact (Tryz.cmp_Compare_int _ _ _).mono (by
    rintro e w' ⟨rfl,rfl⟩;exact ⟨_,rfl,hK _ ⟨hj.1,fun h=>absurd h (by decide)⟩⟩)
 apply Gl.wpLin_move (v:= .slice (some ⟨W2.heap.size+2,0,none⟩) 2 2)
 · intro wj hj K hK
   have hz:=gL hj.1;change wj.heap.size=W2.heap.size+2 at hz
   go_simp
   have h:=hK _ ⟨Ms hj.1 0 #[.cells #[I4 (Lib.compareInt (Be a (c:Int)) (Be b (c:Int))),I4 (Lib.compareInt a.k b.k)] 3 (0,0)],fun _=>?_⟩
   · rw [alloc_eq_grow]
     exact h
   · rw [←hz]
     exact OZ wj _
 apply Gl.wpLin_move
 · intro wj hj K hK
   have hb:=hj.2 (by decide)
   go_simp
   exact (j3 _ _ _ _ (Cg (i:=0) hb rfl) (Cg (i:=1) hb rfl)).mono (by
    rintro e w' ⟨rfl,rfl⟩;exact ⟨_,rfl,hK _ ⟨hj.1,fun _=>hb⟩⟩)
 apply Gl.wpLin_keep
 · intro j wj hj K hK
   go_simp
   exact hK _ hj
 apply Gl.wpLin_done;intro wz hz;rw [HFR.out];simp only [Gl.putE,Gl.putsE,Act.put,yI,List.set_cons_zero,List.set_cons_succ];obtain ⟨⟨q,os,-,rfl⟩,-⟩:=hz;clear HFR
 go_wp2
 go_ret
 obtain ⟨q',os',-,h⟩:=Ms hS0 q os;exact ⟨rfl,q',os',h⟩
end Go.Proofs.YtkdgffcfmgmemaaGreatDoor
namespace Go.Proofs.YtkdgffcfmgmemaaGreatDoor
open Go.Proofs.Tryz
open Go Go.RowKit Gw
set_option maxRecDepth 100000
attribute [local irreducible] Gw.At Gw.Nx Gw.Ops
open Go.Sort Go.Shelf
instance:Inhabited AP:=⟨⟨0,0,⟨0,0,0⟩⟩⟩
def R8(r:AP):List Value:=[I4 r.t,I4 r.k,I4 r.v.a,I4 r.v.b,I4 r.v.c]
theorem ltR(c:Nat)(a b:AP):ltOf (fB c) a b=decide (Be a (c:Int)<Be b (c:Int)∨Be a (c:Int)=Be b (c:Int)∧a.k<b.k):=by
 unfold ltOf fB orL Lib.compareInt;have h1:=Int.lt_trichotomy (Be a (c:Int)) (Be b (c:Int))
 have h2:=Int.lt_trichotomy a.k b.k;generalize Be a (c:Int)=x at*;generalize Be b (c:Int)=y at*;apply decide_eq_decide.2;split<;>split<;>(try split)<;>(try split)<;>omega
theorem sF(c:Nat):SWO (ltOf (fB c))where
 irrefl x:=by rw [ltR];simp
 trans x y z h1 h2:=by rw [ltR]at*;simp only [decide_eq_true_eq]at*;omega
 ntrans x y z h1 h2:=by rw [ltR]at*;simp only [decide_eq_false_iff_not]at*;omega
theorem lg:kz:=by
 intro cb c w o s hc hn hro;obtain ⟨hlen,⟨rfl,h0,rfl⟩|⟨g,cap,cur,z,rfl,rfl,hle,hcm,hcs,htk,hfr⟩⟩:=hro
 · intro u R w0 hs
   have ho:o=[]:=uf h0;subst ho;have hN:=AnyF.slices_SortFunc_none Tryz.sortRow none 0 (.func (.func 210) #[] #[I5 cb]) w0
   exact hN.mono (by
    rintro e w' ⟨rfl,rfl⟩;exact .inl ⟨_,_,rfl,⟨rfl,[],[],.refl _,.nil,BV _ _,rfl⟩,hs⟩)
 · intro u R w0 hs
   have hb:=hs.get (g,.cells cur 113 z) (by simp);have hcb:=hs.get (cb,.cells #[I4 (c:Int)] 3 (0,0)) (by simp)
   have hne:g≠cb:=by
    have:=hs.nodup;simp at this;exact this.1.1
   have hH:=YK (w:=w0) (g:=g) (cur:=cur) (e:=113) (z:=z) R8 5 (fun _=>rfl) o hb (by rw [hcs];omega) hfr htk;have eg:∀(args:Array Value) (w:World),(callFunc 210 args).run Tryz.prog w= .ok (.enter 210 args) w:=enters_of func210 (by kernel_rfl) rfl
   have hcmp:CmpLays Tryz.prog 210 #[I5 cb] R8 5 (fB c) g 0 o.toArray.size w0:=by
    intro m os dk hsz x y;refine fA x y c hc cb _ ?_;have hlt:=hs.lt (p:=(cb,.cells #[I4 (c:Int)] 3 (0,0))) (by simp)
    rw [Nu R8 5 w0 g m cb dk os hne hlt];exact hcb
   have hcon:=AnyQ.slices_SortFunc Tryz.sortRow 5 isAgg113 sizeOf113 R8 (fun _=>rfl) (fun x v hv=>by simp [R8]at hv;rcases hv with rfl|rfl|rfl|rfl|rfl<;>rfl) (fB c) (sF c) 210 #[I5 cb] g 0 cap o.toArray w0 eg hcmp hH (hs.lt (p:=(g,.cells cur 113 z)) (by simp)) (by simp;omega);refine hcon.mono ?_;rintro e w' ⟨rfl,d',n,os,⟨hds,-,hpm⟩,hso,rfl⟩;have hds':d'.size=o.length:=by simpa using hds
   have hF:(flatK R8 5 d').toList=Ac d'.toList:=Qv R8 5 (fun _=>rfl) d'.toList;have hFs:(flatK R8 5 d').size=o.length*5:=by rw [size_flatK,hds']
   have hpm2:d'.toList.Perm o:=by
    have e1:d'.extract 0 o.toArray.size=d':=by
     rw [show o.toArray.size=d'.size by rw [hds'];simp];exact Array.extract_size
    rw [e1]at hpm;simpa using hpm
   have hpl:d'.toList.length=o.length:=hpm2.length_eq;refine .inl ⟨_,[[(g,.cells (putCells id 0 (flatK R8 5 d') cur) 113 z)],[(cb,.cells #[I4 (c:Int)] 3 (0,0))]],rfl,⟨rfl,_,d'.toList,hpm2,?_,?_,rfl⟩,hs.sortedK R8 d' os⟩
   · rw [yM]
     intro i j hi hj hij;have h:=hso i j (tX _) hij (by simp;omega)
     rw [ltR]at h;simp only [decide_eq_false_iff_not]at h;rw [getElem!_pos d' i (by simpa using hi),getElem!_pos d' j (by simpa using hj)]at h;rw [ME _ c hc,ME _ c hc]at h;unfold leV;simp only [Array.getElem_toList];omega
   · rw [hpl]
     refine ⟨by rw [BF,hpl],.inr ⟨g,cap,_,z,rfl,rfl,hle,hcm,by rw [Sl];exact hcs,?_,by rw [Sl];exact hfr⟩⟩;have h:=bO cur (flatK R8 5 d') (by rw [hFs,hcs];omega)
     rw [hFs,hF]at h;exact h
end Go.Proofs.YtkdgffcfmgmemaaGreatDoor
