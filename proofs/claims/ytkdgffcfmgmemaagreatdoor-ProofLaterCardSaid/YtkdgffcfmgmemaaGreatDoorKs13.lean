/- The rows of a range, of a table: one list. -/
import Derived.Test.YtkdgffcfmgmemaaGreatDoorEz
import Derived.Test.YtkdgffcfmgmemaaGreatDoorKs12
import Derived.Test.YtkdgffcfmgmemaaGreatDoorEx22
set_option linter.unusedVariables false
set_option linter.unusedSimpArgs false
namespace Go.Proofs.YtkdgffcfmgmemaaGreatDoor
open Go.Proofs.Tryz
open Go Go.RowKit Gw
set_option maxRecDepth 100000
attribute [local irreducible] Gw.At Gw.Nx Gw.Ops
theorem TW(c:Nat)(out:List AP)(x:AP):∃A B,out=A++B∧Rk c out x=A++[x]++B∧(∀r∈B,DT x c<DT r c)∧(A=[]∨∃A' r,A=A'++[r]∧DT r c≤DT x c):=by
 let q:AP→Bool:=fun r=>decide (DT x c<DT r c)
 have e:out=(out.reverse.dropWhile q).reverse++(out.reverse.takeWhile q).reverse:=by
  rw [←wP,List.takeWhile_append_dropWhile,List.reverse_reverse]
 have hp:O6 c out (DT x c)=(out.reverse.dropWhile q).reverse.length:=by
  rw [xM];rfl
 refine ⟨(out.reverse.dropWhile q).reverse,(out.reverse.takeWhile q).reverse,e,?_,?_,?_⟩
 · unfold Rk
   rw [hp];generalize (out.reverse.dropWhile q).reverse=A at*;generalize (out.reverse.takeWhile q).reverse=B at*;subst e;rw [uZ,wU];all_goals rfl
 · intro r hr
   rw [xh]at hr;have:=List.all_takeWhile (p:=q) (l:=out.reverse)
   rw [vE]at this;simpa [q]using this r hr
 · cases h:out.reverse.dropWhile q with
   |nil=>left;rfl
   |cons r l=>
    right;refine ⟨l.reverse,r,by simp,?_⟩;have:=List.head?_dropWhile_not q out.reverse
    rw [h]at this;simpa [q]using this
theorem TV(c:Nat)(out:List AP)(x:AP):(Rk c out x).Perm (x::out):=by
 obtain ⟨A,B,e1,e2,_,_⟩:=TW c out x;rw [e2,e1,tF];exact uM
theorem Qt(c:Nat):∀(l out:List AP),(l.foldl (Rk c) out).Perm (out++l)
 |[],out=>by simp
 |x::l,out=>by
  rw [wh];refine (Qt c l _).trans ?_;refine ((TV c out x).append_right l).trans ?_;exact uM.symm
theorem WM{c:Nat}{out:List AP}{x:AP}(h:out.Pairwise (leV c))(hk:∀r∈out,r.k<x.k):(Rk c out x).Pairwise (leV c):=by
 obtain ⟨A,B,e1,e2,hB,hA⟩:=TW c out x;rw [e2];rw [e1]at h hk;rw [uw]at h;obtain ⟨h1,h2,h3⟩:=h;have hA2:∀r∈A,DT r c≤DT x c:=by
  rcases hA with rfl|⟨A',r0,rfl,h0⟩
  · intro r hr;simp at hr
  · intro r hr
    rcases tV.1 hr with hr'|hr'
    · rw [uw]at h1
      have:=h1.2.2 r hr' r0 (by simp);unfold leV at this;omega
    · rw [tO]at hr'
      subst hr';exact h0
 rw [tF,uw];refine ⟨h1,?_,?_⟩
 · rw [uO,vk]
   exact ⟨fun r hr=> .inl (hB r hr),h2⟩
 · intro a ha b hb
   rw [uO,u7]at hb;rcases hb with rfl|hb
   · have h4:=hA2 a ha
     have h5:=hk a (uG _ ha);unfold leV;omega
   · exact h3 a ha b hb
theorem NR(c:Nat):∀(l out:List AP),out.Pairwise (leV c)→l.Pairwise (fun a b=>a.k<b.k)→(∀r∈out,∀x∈l,r.k<x.k)→(l.foldl (Rk c) out).Pairwise (leV c)
 |[],out,h,_,_=>h
 |x::l,out,h,h2,h3=>by
  rw [wh];rw [vk]at h2;refine NR c l _ (WM h fun r hr=>h3 r hr x (by simp)) h2.2 ?_;intro r hr y hy;have:=(TV c out x).mem_iff.1 hr
  rcases u7.1 this with rfl|hm
  · exact h2.1 y hy
  · exact h3 r hm y (by simp [hy])
theorem OJ{rs:List AP}{t:Int}{f:AP→Bool}(hs:BI rs)(hf:∀r,f r=true→r.t=t):(rs.filter f).Pairwise (fun a b=>a.k<b.k):=by
 have h1:(rs.filter f).Pairwise (fun a b=>a.lt2 b.t b.k):=hs.filter f;refine h1.imp_of_mem ?_;intro a b ha hb hab;have h2:=hf a (vP.1 ha).2
 have h3:=hf b (vP.1 hb).2;unfold AP.lt2 at hab;omega
theorem jQ{l:List AP}(h:l.Pairwise (fun a b=>a.k<b.k)):∀a∈l,∀b∈l,a.k=b.k→a=b:=by
 induction l with
 |nil=>intro a ha;simp at ha
 |cons x l ih=>
  rw [vk]at h;intro a ha b hb e;rcases u7.1 ha with ea|ha'<;>rcases u7.1 hb with eb|hb'
  · rw [ea,eb]
  · have:=h.1 b hb';rw [ea]at e;omega
  · have:=h.1 a ha';rw [eb]at e;omega
  · exact ih h.2 a ha' b hb' e
theorem aB{t:Int}{c:Nat}{lo hi:Int}{r:AP}(h:inR t c lo hi r=true):r.t=t:=(of_decide_eq_true h).1
theorem EP(rs:List AP)(t:Int)(c:Nat)(lo hi:Int):(Cj rs t c lo hi).Perm (rs.filter (inR t c lo hi)):=by
 have:=Qt c (rs.filter (inR t c lo hi)) [];rw [vH]at this;exact this
theorem Ea{rs:List AP}(hs:BI rs)(t:Int)(c:Nat)(lo hi:Int):(Cj rs t c lo hi).Pairwise (leV c):=
 NR c _ [] .nil (OJ hs fun r h=>aB h) (by intro r hr;simp at hr)
theorem Pq{rs:List AP}(hs:BI rs){t:Int}{f:AP→Bool}(hf:∀r,f r=true→r.t=t){c:Nat}{a b:List AP}(ha:a.Perm (rs.filter f))(hb:b.Perm (rs.filter f))(h1:a.Pairwise (leV c))(h2:b.Pairwise (leV c)):a=b:=by
 have hk:=OJ hs hf;refine (ha.trans hb.symm).eq_of_pairwise ?_ h1 h2;intro x y hx hy hxy hyx;refine jQ hk x (ha.mem_iff.1 hx) y (hb.mem_iff.1 hy) ?_;unfold leV at hxy hyx;omega
theorem Sj{rs:List AP}(hs:BI rs){t:Int}{c:Nat}{lo hi:Int}{o:List AP}(h1:o.Perm (rs.filter (inR t c lo hi)))(h2:o.Pairwise (leV c)):o=Cj rs t c lo hi:=
 Pq hs (fun r h=>aB h) h1 (EP rs t c lo hi) h2 (Ea hs t c lo hi)
def inT(t:Int)(r:AP):Bool:=decide (r.t=t)
def I8(rs:List AP)(t:Int):List AP:=rs.filter (inT t)
def PQ(v:Value)(p:Int)(rs:List AP)(s:List AR):Prop:=∃sp mb es ck lm,v=I5 sp∧Ey K2 es ck lm∧GX lm rs∧BI rs∧rs.length≤2000∧s=[(sp,.cells #[.map (some mb),I4 p] 175 (0,0)),(mb,.map es ck)]
theorem ag(sp mb:Nat)(p:Int)(es:Array MapEntry)(ck:Nat)(lm:List ((Int×Int)×Value))(rs:List AP)(hm:Ey K2 es ck lm)(hR:GX lm rs)(hs:BI rs)(hn:rs.length≤2000)(t:Int)(c:Nat)(lo hi:Int)(hc:c≤3):
 CK Tryz.prog 53 #[I5 sp,I4 t,I4 (c:Int),I4 lo,I4 hi] [[(sp,.cells #[.map (some mb),I4 p] 175 (0,0))],[(mb,.map es ck)]] (fun r H'=>∃so,BX 5 113 r (Cj rs t c lo hi).length (Ac (Cj rs t c lo hi)) so∧H'=[so,[(sp,.cells #[.map (some mb),I4 p] 175 (0,0))],[(mb,.map es ck)]]):=by
 refine Se func53 ntmps53 [0,1,2,3,4] ?_;intro u R;refine Zq<|Zg<|Ze (Bx #[_]) ?_;rintro _ _ ⟨b2,rfl,rfl⟩;refine Ze (Bx #[_]) ?_;rintro _ _ ⟨b1,rfl,rfl⟩;refine Ze (Bx #[_]) ?_;rintro _ _ ⟨b3,rfl,rfl⟩;refine Ze (Bx #[_]) ?_;rintro _ _ ⟨b4,rfl,rfl⟩;refine Za Y<|Z0<|Zx<|Zq<|Zq<|Zg<|Zl isAgg3 Y ?_;refine Zv (Aq (n:=0) Y Y)<|Zm Y ?_;refine Ai (t:=13) Y rfl (fun h1=>?_) (fun h1=>?_)
 ·
  exfalso;(cases h1;done)
 refine Yl isAgg3 Y ?_;refine Yg (FV (n:=4) Y Y)<|Zv (AA Y Y)<|Z0<|Zx ?_;refine Ao Y (fun h2=>?_) (fun h2=>?_)
 ·
  exfalso;omega
 refine AC<|Zx<|Zq<|Zg<|Zm Y<|Zl isAgg3 Y ?_;refine Zv (Bt (vs:=[]) (us:=[_,_,_,_]) Y Y) ?_;refine Zc [_,_,_] Y call123 Y rfl (Ug lX sp mb p es ck lm rs hm hR hs hn t c lo hi hc b1 b2 b3 b4) ?_;rintro _ _ ⟨_,⟨so,o,hro,hpm,hpw,rfl⟩,rfl⟩;have e9:=Sj hs hpm hpw
 subst e9;refine Za Y<|Z0<|Zn [10] ?_;refine Zx<|A9 ?_;refine AB rfl results53 Y (by exact ⟨so,hro,rfl⟩)
theorem VC(v:Value)(p:Int)(rs:List AP)(s:List AR)(hv:PQ v p rs s)(t:Int)(c:Nat)(lo hi:Int)(hc:c≤3):CK Tryz.prog 53 #[v,I4 t,I4 (c:Int),I4 lo,I4 hi] [s] (fun r H'=>∃so,BX 5 113 r (Cj rs t c lo hi).length (Ac (Cj rs t c lo hi)) so∧H'=[so,s]):=by
 obtain ⟨sp,mb,es,ck,lm,rfl,hm,hR,hs,hn,rfl⟩:=hv;refine EK (ag sp mb p es ck lm rs hm hR hs hn t c lo hi hc) (by simp) ?_;rintro r H' ⟨so,hro,rfl⟩;exact ⟨_,⟨so,hro,rfl⟩,by simp⟩
end Go.Proofs.YtkdgffcfmgmemaaGreatDoor
