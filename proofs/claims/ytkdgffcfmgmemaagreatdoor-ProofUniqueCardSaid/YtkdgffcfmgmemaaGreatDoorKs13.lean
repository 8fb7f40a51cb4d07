/- The rows of a range, of a table: one list. -/
import Derived.Test.YtkdgffcfmgmemaaGreatDoorEz
import Derived.Test.YtkdgffcfmgmemaaGreatDoorKs12
import Derived.Test.YtkdgffcfmgmemaaGreatDoorEx22
set_option linter.unusedVariables false
set_option linter.unusedSimpArgs false
namespace Go.Proofs.YtkdgffcfmgmemaaGreatDoor
open Go.Proofs.Tryz
open Go Go.RowKit Gw
set_option maxRecDepth 100000
attribute [local irreducible] Gw.At Gw.Nx Gw.Ops
theorem TY(c:Nat)(out:List AP)(x:AP):∃A B,out=A++B∧Rj c out x=A++[x]++B∧(∀r∈B,DR x c<DR r c)∧(A=[]∨∃A' r,A=A'++[r]∧DR r c≤DR x c):=by
 let q:AP→Bool:=fun r=>decide (DR x c<DR r c)
 have e:out=(out.reverse.dropWhile q).reverse++(out.reverse.takeWhile q).reverse:=by
  rw [←wX,List.takeWhile_append_dropWhile,List.reverse_reverse]
 have hp:O8 c out (DR x c)=(out.reverse.dropWhile q).reverse.length:=by
  rw [xS];rfl
 refine ⟨(out.reverse.dropWhile q).reverse,(out.reverse.takeWhile q).reverse,e,?_,?_,?_⟩
 · unfold Rj
   rw [hp];generalize (out.reverse.dropWhile q).reverse=A at*;generalize (out.reverse.takeWhile q).reverse=B at*;subst e;rw [ul,wm];all_goals rfl
 · intro r hr
   rw [xx]at hr;have:=List.all_takeWhile (p:=q) (l:=out.reverse)
   rw [vL]at this;simpa [q]using this r hr
 · cases h:out.reverse.dropWhile q with
   |nil=>left;rfl
   |cons r l=>
    right;refine ⟨l.reverse,r,by simp,?_⟩;have:=List.head?_dropWhile_not q out.reverse
    rw [h]at this;simpa [q]using this
theorem TW(c:Nat)(out:List AP)(x:AP):(Rj c out x).Perm (x::out):=by
 obtain ⟨A,B,e1,e2,_,_⟩:=TY c out x;rw [e2,e1,tO];exact uS
theorem Qr(c:Nat):∀(l out:List AP),(l.foldl (Rj c) out).Perm (out++l)
 |[],out=>by simp
 |x::l,out=>by
  rw [xD];refine (Qr c l _).trans ?_;refine ((TW c out x).append_right l).trans ?_;exact uS.symm
theorem WN{c:Nat}{out:List AP}{x:AP}(h:out.Pairwise (leV c))(hk:∀r∈out,r.k<x.k):(Rj c out x).Pairwise (leV c):=by
 obtain ⟨A,B,e1,e2,hB,hA⟩:=TY c out x;rw [e2];rw [e1]at h hk;rw [vE]at h;obtain ⟨h1,h2,h3⟩:=h;have hA2:∀r∈A,DR r c≤DR x c:=by
  rcases hA with rfl|⟨A',r0,rfl,h0⟩
  · intro r hr;simp at hr
  · intro r hr
    rcases uF.1 hr with hr'|hr'
    · rw [vE]at h1
      have:=h1.2.2 r hr' r0 (by simp);unfold leV at this;omega
    · rw [tq]at hr'
      subst hr';exact h0
 rw [tO,vE];refine ⟨h1,?_,?_⟩
 · rw [uU,wF]
   exact ⟨fun r hr=> .inl (hB r hr),h2⟩
 · intro a ha b hb
   rw [uU,uI]at hb;rcases hb with rfl|hb
   · have h4:=hA2 a ha
     have h5:=hk a (u6 _ ha);unfold leV;omega
   · exact h3 a ha b hb
theorem NT(c:Nat):∀(l out:List AP),out.Pairwise (leV c)→l.Pairwise (fun a b=>a.k<b.k)→(∀r∈out,∀x∈l,r.k<x.k)→(l.foldl (Rj c) out).Pairwise (leV c)
 |[],out,h,_,_=>h
 |x::l,out,h,h2,h3=>by
  rw [xD];rw [wF]at h2;refine NT c l _ (WN h fun r hr=>h3 r hr x (by simp)) h2.2 ?_;intro r hr y hy;have:=(TW c out x).mem_iff.1 hr
  rcases uI.1 this with rfl|hm
  · exact h2.1 y hy
  · exact h3 r hm y (by simp [hy])
theorem OL{rs:List AP}{t:Int}{f:AP→Bool}(hs:BJ rs)(hf:∀r,f r=true→r.t=t):(rs.filter f).Pairwise (fun a b=>a.k<b.k):=by
 have h1:(rs.filter f).Pairwise (fun a b=>a.lt2 b.t b.k):=hs.filter f;refine h1.imp_of_mem ?_;intro a b ha hb hab;have h2:=hf a (vW.1 ha).2
 have h3:=hf b (vW.1 hb).2;unfold AP.lt2 at hab;omega
theorem jW{l:List AP}(h:l.Pairwise (fun a b=>a.k<b.k)):∀a∈l,∀b∈l,a.k=b.k→a=b:=by
 induction l with
 |nil=>intro a ha;simp at ha
 |cons x l ih=>
  rw [wF]at h;intro a ha b hb e;rcases uI.1 ha with ea|ha'<;>rcases uI.1 hb with eb|hb'
  · rw [ea,eb]
  · have:=h.1 b hb';rw [ea]at e;omega
  · have:=h.1 a ha';rw [eb]at e;omega
  · exact ih h.2 a ha' b hb' e
theorem aD{t:Int}{c:Nat}{lo hi:Int}{r:AP}(h:inR t c lo hi r=true):r.t=t:=(of_decide_eq_true h).1
theorem EO(rs:List AP)(t:Int)(c:Nat)(lo hi:Int):(Ci rs t c lo hi).Perm (rs.filter (inR t c lo hi)):=by
 have:=Qr c (rs.filter (inR t c lo hi)) [];rw [vN]at this;exact this
theorem EY{rs:List AP}(hs:BJ rs)(t:Int)(c:Nat)(lo hi:Int):(Ci rs t c lo hi).Pairwise (leV c):=
 NT c _ [] .nil (OL hs fun r h=>aD h) (by intro r hr;simp at hr)
theorem Pm{rs:List AP}(hs:BJ rs){t:Int}{f:AP→Bool}(hf:∀r,f r=true→r.t=t){c:Nat}{a b:List AP}(ha:a.Perm (rs.filter f))(hb:b.Perm (rs.filter f))(h1:a.Pairwise (leV c))(h2:b.Pairwise (leV c)):a=b:=by
 have hk:=OL hs hf;refine (ha.trans hb.symm).eq_of_pairwise ?_ h1 h2;intro x y hx hy hxy hyx;refine jW hk x (ha.mem_iff.1 hx) y (hb.mem_iff.1 hy) ?_;unfold leV at hxy hyx;omega
theorem Sj{rs:List AP}(hs:BJ rs){t:Int}{c:Nat}{lo hi:Int}{o:List AP}(h1:o.Perm (rs.filter (inR t c lo hi)))(h2:o.Pairwise (leV c)):o=Ci rs t c lo hi:=
 Pm hs (fun r h=>aD h) h1 (EO rs t c lo hi) h2 (EY hs t c lo hi)
def inT(t:Int)(r:AP):Bool:=decide (r.t=t)
def I9(rs:List AP)(t:Int):List AP:=rs.filter (inT t)
def PO(v:Value)(p:Int)(rs:List AP)(s:List AR):Prop:=∃sp mb es ck lm,v=I5 sp∧Ex K2 es ck lm∧GX lm rs∧BJ rs∧rs.length≤2000∧s=[(sp,.cells #[.map (some mb),I4 p] 175 (0,0)),(mb,.map es ck)]
theorem aj(sp mb:Nat)(p:Int)(es:Array MapEntry)(ck:Nat)(lm:List ((Int×Int)×Value))(rs:List AP)(hm:Ex K2 es ck lm)(hR:GX lm rs)(hs:BJ rs)(hn:rs.length≤2000)(t:Int)(c:Nat)(lo hi:Int)(hc:c≤3):
 CO Tryz.prog 53 #[I5 sp,I4 t,I4 (c:Int),I4 lo,I4 hi] [[(sp,.cells #[.map (some mb),I4 p] 175 (0,0))],[(mb,.map es ck)]] (fun r H'=>∃so,BX 5 113 r (Ci rs t c lo hi).length (Ac (Ci rs t c lo hi)) so∧H'=[so,[(sp,.cells #[.map (some mb),I4 p] 175 (0,0))],[(mb,.map es ck)]]):=by
 refine Se func53 ntmps53 [0,1,2,3,4] ?_;intro u R;refine Zq<|Zg<|Ze (Bx #[_]) ?_;rintro _ _ ⟨b2,rfl,rfl⟩;refine Ze (Bx #[_]) ?_;rintro _ _ ⟨b1,rfl,rfl⟩;refine Ze (Bx #[_]) ?_;rintro _ _ ⟨b3,rfl,rfl⟩;refine Ze (Bx #[_]) ?_;rintro _ _ ⟨b4,rfl,rfl⟩;refine Za Y<|Z0<|Zx<|Zq<|Zq<|Zg<|Zl isAgg3 Y ?_;refine Zv (Aq (n:=0) Y Y)<|Zm Y ?_;refine Aj (t:=13) Y rfl (fun h1=>?_) (fun h1=>?_)
 ·
  exfalso;(cases h1;done)
 refine Yl isAgg3 Y ?_;refine Yg (FR (n:=4) Y Y)<|Zv (AA Y Y)<|Z0<|Zx ?_;refine Ao Y (fun h2=>?_) (fun h2=>?_)
 ·
  exfalso;omega
 refine AC<|Zx<|Zq<|Zg<|Zm Y<|Zl isAgg3 Y ?_;refine Zv (Bt (vs:=[]) (us:=[_,_,_,_]) Y Y) ?_;refine Zc [_,_,_] Y call123 Y rfl (Ug lg sp mb p es ck lm rs hm hR hs hn t c lo hi hc b1 b2 b3 b4) ?_;rintro _ _ ⟨_,⟨so,o,hro,hpm,hpw,rfl⟩,rfl⟩;have e9:=Sj hs hpm hpw
 subst e9;refine Za Y<|Z0<|Zn [10] ?_;refine Zx<|A9 ?_;refine AB rfl results53 Y (by exact ⟨so,hro,rfl⟩)
theorem VE(v:Value)(p:Int)(rs:List AP)(s:List AR)(hv:PO v p rs s)(t:Int)(c:Nat)(lo hi:Int)(hc:c≤3):CO Tryz.prog 53 #[v,I4 t,I4 (c:Int),I4 lo,I4 hi] [s] (fun r H'=>∃so,BX 5 113 r (Ci rs t c lo hi).length (Ac (Ci rs t c lo hi)) so∧H'=[so,s]):=by
 obtain ⟨sp,mb,es,ck,lm,rfl,hm,hR,hs,hn,rfl⟩:=hv;refine EB (aj sp mb p es ck lm rs hm hR hs hn t c lo hi hc) (by simp) ?_;rintro r H' ⟨so,hro,rfl⟩;exact ⟨_,⟨so,hro,rfl⟩,by simp⟩
end Go.Proofs.YtkdgffcfmgmemaaGreatDoor
