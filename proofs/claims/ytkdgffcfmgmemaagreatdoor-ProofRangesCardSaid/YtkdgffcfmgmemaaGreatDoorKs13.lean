/- The rows of a range, of a table: one list. -/
import Derived.Test.YtkdgffcfmgmemaaGreatDoorEz
import Derived.Test.YtkdgffcfmgmemaaGreatDoorKs12
import Derived.Test.YtkdgffcfmgmemaaGreatDoorEx22
set_option linter.unusedVariables false
set_option linter.unusedSimpArgs false
namespace Go.Proofs.YtkdgffcfmgmemaaGreatDoor
open Go.Proofs.Tryz
open Go Go.RowKit Gw
set_option maxRecDepth 100000
attribute [local irreducible] Gw.At Gw.Nx Gw.Ops
theorem TY(c:Nat)(out:List AQ)(x:AQ):∃A B,out=A++B∧Rk c out x=A++[x]++B∧(∀r∈B,DU x c<DU r c)∧(A=[]∨∃A' r,A=A'++[r]∧DU r c≤DU x c):=by
 let q:AQ→Bool:=fun r=>decide (DU x c<DU r c)
 have e:out=(out.reverse.dropWhile q).reverse++(out.reverse.takeWhile q).reverse:=by
  rw [←wU,List.takeWhile_append_dropWhile,List.reverse_reverse]
 have hp:O4 c out (DU x c)=(out.reverse.dropWhile q).reverse.length:=by
  rw [xR];rfl
 refine ⟨(out.reverse.dropWhile q).reverse,(out.reverse.takeWhile q).reverse,e,?_,?_,?_⟩
 · unfold Rk
   rw [hp];generalize (out.reverse.dropWhile q).reverse=A at*;generalize (out.reverse.takeWhile q).reverse=B at*;subst e;rw [uj,wZ];all_goals rfl
 · intro r hr
   rw [xw]at hr;have:=List.all_takeWhile (p:=q) (l:=out.reverse)
   rw [vJ]at this;simpa [q]using this r hr
 · cases h:out.reverse.dropWhile q with
   |nil=>left;rfl
   |cons r l=>
    right;refine ⟨l.reverse,r,by simp,?_⟩;have:=List.head?_dropWhile_not q out.reverse
    rw [h]at this;simpa [q]using this
theorem TW(c:Nat)(out:List AQ)(x:AQ):(Rk c out x).Perm (x::out):=by
 obtain ⟨A,B,e1,e2,_,_⟩:=TY c out x;rw [e2,e1,tN];exact uR
theorem Qv(c:Nat):∀(l out:List AQ),(l.foldl (Rk c) out).Perm (out++l)
 |[],out=>by simp
 |x::l,out=>by
  rw [xC];refine (Qv c l _).trans ?_;refine ((TW c out x).append_right l).trans ?_;exact uR.symm
theorem WP{c:Nat}{out:List AQ}{x:AQ}(h:out.Pairwise (leV c))(hk:∀r∈out,r.k<x.k):(Rk c out x).Pairwise (leV c):=by
 obtain ⟨A,B,e1,e2,hB,hA⟩:=TY c out x;rw [e2];rw [e1]at h hk;rw [vC]at h;obtain ⟨h1,h2,h3⟩:=h;have hA2:∀r∈A,DU r c≤DU x c:=by
  rcases hA with rfl|⟨A',r0,rfl,h0⟩
  · intro r hr;simp at hr
  · intro r hr
    rcases u7.1 hr with hr'|hr'
    · rw [vC]at h1
      have:=h1.2.2 r hr' r0 (by simp);unfold leV at this;omega
    · rw [tY]at hr'
      subst hr';exact h0
 rw [tN,vC];refine ⟨h1,?_,?_⟩
 · rw [uT,wD]
   exact ⟨fun r hr=> .inl (hB r hr),h2⟩
 · intro a ha b hb
   rw [uT,uH]at hb;rcases hb with rfl|hb
   · have h4:=hA2 a ha
     have h5:=hk a (uM _ ha);unfold leV;omega
   · exact h3 a ha b hb
theorem NN(c:Nat):∀(l out:List AQ),out.Pairwise (leV c)→l.Pairwise (fun a b=>a.k<b.k)→(∀r∈out,∀x∈l,r.k<x.k)→(l.foldl (Rk c) out).Pairwise (leV c)
 |[],out,h,_,_=>h
 |x::l,out,h,h2,h3=>by
  rw [xC];rw [wD]at h2;refine NN c l _ (WP h fun r hr=>h3 r hr x (by simp)) h2.2 ?_;intro r hr y hy;have:=(TW c out x).mem_iff.1 hr
  rcases uH.1 this with rfl|hm
  · exact h2.1 y hy
  · exact h3 r hm y (by simp [hy])
theorem OH{rs:List AQ}{t:Int}{f:AQ→Bool}(hs:BK rs)(hf:∀r,f r=true→r.t=t):(rs.filter f).Pairwise (fun a b=>a.k<b.k):=by
 have h1:(rs.filter f).Pairwise (fun a b=>a.lt2 b.t b.k):=hs.filter f;refine h1.imp_of_mem ?_;intro a b ha hb hab;have h2:=hf a (vU.1 ha).2
 have h3:=hf b (vU.1 hb).2;unfold AQ.lt2 at hab;omega
theorem jY{l:List AQ}(h:l.Pairwise (fun a b=>a.k<b.k)):∀a∈l,∀b∈l,a.k=b.k→a=b:=by
 induction l with
 |nil=>intro a ha;simp at ha
 |cons x l ih=>
  rw [wD]at h;intro a ha b hb e;rcases uH.1 ha with ea|ha'<;>rcases uH.1 hb with eb|hb'
  · rw [ea,eb]
  · have:=h.1 b hb';rw [ea]at e;omega
  · have:=h.1 a ha';rw [eb]at e;omega
  · exact ih h.2 a ha' b hb' e
theorem aC{t:Int}{c:Nat}{lo hi:Int}{r:AQ}(h:inR t c lo hi r=true):r.t=t:=(of_decide_eq_true h).1
theorem EO(rs:List AQ)(t:Int)(c:Nat)(lo hi:Int):(Ck rs t c lo hi).Perm (rs.filter (inR t c lo hi)):=by
 have:=Qv c (rs.filter (inR t c lo hi)) [];rw [vM]at this;exact this
theorem Ea{rs:List AQ}(hs:BK rs)(t:Int)(c:Nat)(lo hi:Int):(Ck rs t c lo hi).Pairwise (leV c):=
 NN c _ [] .nil (OH hs fun r h=>aC h) (by intro r hr;simp at hr)
theorem Pp{rs:List AQ}(hs:BK rs){t:Int}{f:AQ→Bool}(hf:∀r,f r=true→r.t=t){c:Nat}{a b:List AQ}(ha:a.Perm (rs.filter f))(hb:b.Perm (rs.filter f))(h1:a.Pairwise (leV c))(h2:b.Pairwise (leV c)):a=b:=by
 have hk:=OH hs hf;refine (ha.trans hb.symm).eq_of_pairwise ?_ h1 h2;intro x y hx hy hxy hyx;refine jY hk x (ha.mem_iff.1 hx) y (hb.mem_iff.1 hy) ?_;unfold leV at hxy hyx;omega
theorem Sj{rs:List AQ}(hs:BK rs){t:Int}{c:Nat}{lo hi:Int}{o:List AQ}(h1:o.Perm (rs.filter (inR t c lo hi)))(h2:o.Pairwise (leV c)):o=Ck rs t c lo hi:=
 Pp hs (fun r h=>aC h) h1 (EO rs t c lo hi) h2 (Ea hs t c lo hi)
def inT(t:Int)(r:AQ):Bool:=decide (r.t=t)
def I9(rs:List AQ)(t:Int):List AQ:=rs.filter (inT t)
def OX(v:Value)(p:Int)(rs:List AQ)(s:List AV):Prop:=∃sp mb es ck lm,v=I5 sp∧Ez K2 es ck lm∧GV lm rs∧BK rs∧rs.length≤2000∧s=[(sp,.cells #[.map (some mb),I4 p] 175 (0,0)),(mb,.map es ck)]
theorem ak(sp mb:Nat)(p:Int)(es:Array MapEntry)(ck:Nat)(lm:List ((Int×Int)×Value))(rs:List AQ)(hm:Ez K2 es ck lm)(hR:GV lm rs)(hs:BK rs)(hn:rs.length≤2000)(t:Int)(c:Nat)(lo hi:Int)(hc:c≤3):
 CK Tryz.prog 53 #[I5 sp,I4 t,I4 (c:Int),I4 lo,I4 hi] [[(sp,.cells #[.map (some mb),I4 p] 175 (0,0))],[(mb,.map es ck)]] (fun r H'=>∃so,BX 5 113 r (Ck rs t c lo hi).length (Ac (Ck rs t c lo hi)) so∧H'=[so,[(sp,.cells #[.map (some mb),I4 p] 175 (0,0))],[(mb,.map es ck)]]):=by
 refine Se func53 ntmps53 [0,1,2,3,4] ?_;intro u R;refine Zq<|Zg<|Ze (Bx #[_]) ?_;rintro _ _ ⟨b2,rfl,rfl⟩;refine Ze (Bx #[_]) ?_;rintro _ _ ⟨b1,rfl,rfl⟩;refine Ze (Bx #[_]) ?_;rintro _ _ ⟨b3,rfl,rfl⟩;refine Ze (Bx #[_]) ?_;rintro _ _ ⟨b4,rfl,rfl⟩;refine Za Y<|Z0<|Zx<|Zq<|Zq<|Zg<|Zl isAgg3 Y ?_;refine Zv (Aq (n:=0) Y Y)<|Zm Y ?_;refine Af (t:=13) Y rfl (fun h1=>?_) (fun h1=>?_)
 ·
  exfalso;(cases h1;done)
 refine Yl isAgg3 Y ?_;refine Yg (F8 (n:=4) Y Y)<|Zv (AA Y Y)<|Z0<|Zx ?_;refine Ao Y (fun h2=>?_) (fun h2=>?_)
 ·
  exfalso;omega
 refine AB<|Zx<|Zq<|Zg<|Zm Y<|Zl isAgg3 Y ?_;refine Zv (Bu (vs:=[]) (us:=[_,_,_,_]) Y Y) ?_;refine Zc [_,_,_] Y call123 Y rfl (Uj mD sp mb p es ck lm rs hm hR hs hn t c lo hi hc b1 b2 b3 b4) ?_;rintro _ _ ⟨_,⟨so,o,hro,hpm,hpw,rfl⟩,rfl⟩;have e9:=Sj hs hpm hpw
 subst e9;refine Za Y<|Z0<|Zn [10] ?_;refine Zx<|A9 ?_;refine AC rfl results53 Y (by exact ⟨so,hro,rfl⟩)
theorem VE(v:Value)(p:Int)(rs:List AQ)(s:List AV)(hv:OX v p rs s)(t:Int)(c:Nat)(lo hi:Int)(hc:c≤3):CK Tryz.prog 53 #[v,I4 t,I4 (c:Int),I4 lo,I4 hi] [s] (fun r H'=>∃so,BX 5 113 r (Ck rs t c lo hi).length (Ac (Ck rs t c lo hi)) so∧H'=[so,s]):=by
 obtain ⟨sp,mb,es,ck,lm,rfl,hm,hR,hs,hn,rfl⟩:=hv;refine ES (ak sp mb p es ck lm rs hm hR hs hn t c lo hi hc) (by simp) ?_;rintro r H' ⟨so,hro,rfl⟩;exact ⟨_,⟨so,hro,rfl⟩,by simp⟩
end Go.Proofs.YtkdgffcfmgmemaaGreatDoor
