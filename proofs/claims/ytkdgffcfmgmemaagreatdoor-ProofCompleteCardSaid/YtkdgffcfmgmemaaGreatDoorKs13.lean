/- The rows of a range, of a table: one list. -/
import Derived.Test.YtkdgffcfmgmemaaGreatDoorEz
import Derived.Test.YtkdgffcfmgmemaaGreatDoorKs12
import Derived.Test.YtkdgffcfmgmemaaGreatDoorEx22
set_option linter.unusedVariables false
set_option linter.unusedSimpArgs false
namespace Go.Proofs.YtkdgffcfmgmemaaGreatDoor
open Go.Proofs.Tryz
open Go Go.RowKit Gw
set_option maxRecDepth 100000
attribute [local irreducible] Gw.At Gw.Nx Gw.Ops
theorem Ti(c:Nat)(out:List AP)(x:AP):∃A B,out=A++B∧Rn c out x=A++[x]++B∧(∀r∈B,DV x c<DV r c)∧(A=[]∨∃A' r,A=A'++[r]∧DV r c≤DV x c):=by
 let q:AP→Bool:=fun r=>decide (DV x c<DV r c)
 have e:out=(out.reverse.dropWhile q).reverse++(out.reverse.takeWhile q).reverse:=by
  rw [←wV,List.takeWhile_append_dropWhile,List.reverse_reverse]
 have hp:OA c out (DV x c)=(out.reverse.dropWhile q).reverse.length:=by
  rw [xU];rfl
 refine ⟨(out.reverse.dropWhile q).reverse,(out.reverse.takeWhile q).reverse,e,?_,?_,?_⟩
 · unfold Rn
   rw [hp];generalize (out.reverse.dropWhile q).reverse=A at*;generalize (out.reverse.takeWhile q).reverse=B at*;subst e;rw [ul,wh];all_goals rfl
 · intro r hr
   rw [xx]at hr;have:=List.all_takeWhile (p:=q) (l:=out.reverse)
   rw [vK]at this;simpa [q]using this r hr
 · cases h:out.reverse.dropWhile q with
   |nil=>left;rfl
   |cons r l=>
    right;refine ⟨l.reverse,r,by simp,?_⟩;have:=List.head?_dropWhile_not q out.reverse
    rw [h]at this;simpa [q]using this
theorem Tf(c:Nat)(out:List AP)(x:AP):(Rn c out x).Perm (x::out):=by
 obtain ⟨A,B,e1,e2,_,_⟩:=Ti c out x;rw [e2,e1,tO];exact uS
theorem Qw(c:Nat):∀(l out:List AP),(l.foldl (Rn c) out).Perm (out++l)
 |[],out=>by simp
 |x::l,out=>by
  rw [xD];refine (Qw c l _).trans ?_;refine ((Tf c out x).append_right l).trans ?_;exact uS.symm
theorem WP{c:Nat}{out:List AP}{x:AP}(h:out.Pairwise (leV c))(hk:∀r∈out,r.k<x.k):(Rn c out x).Pairwise (leV c):=by
 obtain ⟨A,B,e1,e2,hB,hA⟩:=Ti c out x;rw [e2];rw [e1]at h hk;rw [vD]at h;obtain ⟨h1,h2,h3⟩:=h;have hA2:∀r∈A,DV r c≤DV x c:=by
  rcases hA with rfl|⟨A',r0,rfl,h0⟩
  · intro r hr;simp at hr
  · intro r hr
    rcases u7.1 hr with hr'|hr'
    · rw [vD]at h1
      have:=h1.2.2 r hr' r0 (by simp);unfold leV at this;omega
    · rw [tq]at hr'
      subst hr';exact h0
 rw [tO,vD];refine ⟨h1,?_,?_⟩
 · rw [uU,wF]
   exact ⟨fun r hr=> .inl (hB r hr),h2⟩
 · intro a ha b hb
   rw [uU,uJ]at hb;rcases hb with rfl|hb
   · have h4:=hA2 a ha
     have h5:=hk a (u6 _ ha);unfold leV;omega
   · exact h3 a ha b hb
theorem NV(c:Nat):∀(l out:List AP),out.Pairwise (leV c)→l.Pairwise (fun a b=>a.k<b.k)→(∀r∈out,∀x∈l,r.k<x.k)→(l.foldl (Rn c) out).Pairwise (leV c)
 |[],out,h,_,_=>h
 |x::l,out,h,h2,h3=>by
  rw [xD];rw [wF]at h2;refine NV c l _ (WP h fun r hr=>h3 r hr x (by simp)) h2.2 ?_;intro r hr y hy;have:=(Tf c out x).mem_iff.1 hr
  rcases uJ.1 this with rfl|hm
  · exact h2.1 y hy
  · exact h3 r hm y (by simp [hy])
theorem Li{rs:List AP}{t:Int}{f:AP→Bool}(hs:BI rs)(hf:∀r,f r=true→r.t=t):(rs.filter f).Pairwise (fun a b=>a.k<b.k):=by
 have h1:(rs.filter f).Pairwise (fun a b=>a.lt2 b.t b.k):=hs.filter f;refine h1.imp_of_mem ?_;intro a b ha hb hab;have h2:=hf a (vV.1 ha).2
 have h3:=hf b (vV.1 hb).2;unfold AP.lt2 at hab;omega
theorem jZ{l:List AP}(h:l.Pairwise (fun a b=>a.k<b.k)):∀a∈l,∀b∈l,a.k=b.k→a=b:=by
 induction l with
 |nil=>intro a ha;simp at ha
 |cons x l ih=>
  rw [wF]at h;intro a ha b hb e;rcases uJ.1 ha with ea|ha'<;>rcases uJ.1 hb with eb|hb'
  · rw [ea,eb]
  · have:=h.1 b hb';rw [ea]at e;omega
  · have:=h.1 a ha';rw [eb]at e;omega
  · exact ih h.2 a ha' b hb' e
theorem aK{t:Int}{c:Nat}{lo hi:Int}{r:AP}(h:inR t c lo hi r=true):r.t=t:=(of_decide_eq_true h).1
theorem EQ(rs:List AP)(t:Int)(c:Nat)(lo hi:Int):(Ch rs t c lo hi).Perm (rs.filter (inR t c lo hi)):=by
 have:=Qw c (rs.filter (inR t c lo hi)) [];rw [vN]at this;exact this
theorem Eb{rs:List AP}(hs:BI rs)(t:Int)(c:Nat)(lo hi:Int):(Ch rs t c lo hi).Pairwise (leV c):=
 NV c _ [] .nil (Li hs fun r h=>aK h) (by intro r hr;simp at hr)
theorem MJ{rs:List AP}(hs:BI rs){t:Int}{f:AP→Bool}(hf:∀r,f r=true→r.t=t){c:Nat}{a b:List AP}(ha:a.Perm (rs.filter f))(hb:b.Perm (rs.filter f))(h1:a.Pairwise (leV c))(h2:b.Pairwise (leV c)):a=b:=by
 have hk:=Li hs hf;refine (ha.trans hb.symm).eq_of_pairwise ?_ h1 h2;intro x y hx hy hxy hyx;refine jZ hk x (ha.mem_iff.1 hx) y (hb.mem_iff.1 hy) ?_;unfold leV at hxy hyx;omega
theorem Sr{rs:List AP}(hs:BI rs){t:Int}{c:Nat}{lo hi:Int}{o:List AP}(h1:o.Perm (rs.filter (inR t c lo hi)))(h2:o.Pairwise (leV c)):o=Ch rs t c lo hi:=
 MJ hs (fun r h=>aK h) h1 (EQ rs t c lo hi) h2 (Eb hs t c lo hi)
def inT(t:Int)(r:AP):Bool:=decide (r.t=t)
def FK(rs:List AP)(t:Int):List AP:=rs.filter (inT t)
theorem lZ{rs:List AP}(hs:BI rs){t:Int}{o:List AP}(h1:o.Perm (FK rs t))(h2:o.Pairwise (leV 0)):o=FK rs t:=by
 refine MJ (f:=inT t) (t:=t) hs (fun r h=>of_decide_eq_true h) h1 (.refl _) h2 ?_;refine (Li (t:=t) (f:=inT t) hs (fun r h=>of_decide_eq_true h)).imp ?_;intro a b h;unfold leV DV;simp only [if_pos];omega
theorem mE(r:AP)(t:Int)(b1:Nat):Aw Tryz.prog 179 #[.agg #[I4 r.t,I4 r.k,I4 r.v.a,I4 r.v.b,I4 r.v.c],I5 b1] [[(b1,.cells #[I4 t] 3 (0,0))]] (.bool (inT t r)):=by
 refine Se func179 ntmps179 [0,1] ?_;intro u R;refine Zq<|Zg<|Ze (Bx #[_,_,_,_,_]) ?_;rintro _ _ ⟨b1,rfl,rfl⟩;refine Za Y<|Z0<|Zx<|Zq<|Zg<|Zh 0 underlying113 rfl rfl sizeOf3 Y<|Zl isAgg3 Y ?_;refine Zl isAgg3 Y ?_;refine Zv (CG Y Y)<|Za Y<|Z0<|Zx<|A9 ?_;refine AC rfl results179 Y (by exact ⟨rfl,rfl⟩)
theorem X8(hS:Yu)(sp mb:Nat)(p:Int)(es:Array MapEntry)(ck:Nat)(lm:List ((Int×Int)×Value))(rs:List AP)(hm:Ev K2 es ck lm)(hR:Fy lm rs)(hs:BI rs)(hn:rs.length≤2000)(t:Int)(c:Nat)(hc:c≤3)(b1:Nat):
 CF Tryz.prog 123 #[I5 sp,I4 (c:Int),.func (.func 179) #[] #[I5 b1]] [[(sp,.cells #[.map (some mb),I4 p] 175 (0,0))],[(mb,.map es ck)],[(b1,.cells #[I4 t] 3 (0,0))]] (fun r H'=>∃(so:List AR) (o:List AP),BV 5 113 r o.length (Ac o) so∧o.Perm (rs.filter (inT t))∧o.Pairwise (leV c)∧H'=[so,[(sp,.cells #[.map (some mb),I4 p] 175 (0,0))],[(mb,.map es ck)],[(b1,.cells #[I4 t] 3 (0,0))]]):=by
 have hml:=mL;have hln:=hR.len hm hs
 refine Se func123 ntmps123 [0,1,2] ?_;intro u R;refine Zq<|Zg<|Ze (Bx #[_]) ?_;rintro _ _ ⟨cb,rfl,rfl⟩;refine Za Y<|Z0<|Zx<|Zq<|Zq<|Zg<|Zm Y<|Zv (EF underlying33 Y Y)<|Z0<|Zx ?_;refine Af Y (fun h1=>?_) (fun h1=>?_)
 ·
  cases h1
 refine AB<|Zx<|Zq<|Zg<|Za Y<|Z0<|Zx<|Zq<|Zq<|Zg<|Zm Y<|Zp Y rfl<|Zh 0 underlying175 rfl rfl sizeOf173 Y<|Zv (BH (off:=0) underlying173 rfl rfl sizeOf171 Y)<|Zl isAgg171 Y ?_;refine Ze (Pj underlying171 Y Wh) ?_;rintro _ _ ⟨ib,rfl,rfl⟩;refine Z0<|Zx<|AQ<|Bd ?_;refine Zb [7,2,4,17] ?_;refine Az (e0:=[(7,_)]) (fun m e H=>∃(js:List Nat) (seen:Array Nat) (o:List AP) (w:Value) (so:List AR),m=lm.length -js.length∧(LW es js seen∧PR lm (inT t) js o∧BV 5 113 w o.length (Ac o) so∧o.length≤js.length)∧e=[(7,w)]∧H=[[(ib,.mapIter (some mb) ck seen ck)],so]) (by exact ⟨[],#[],[],.slice none 0 0,[],rfl,⟨Tc _,VL _ _,BX 5 _,tQ _⟩,rfl,rfl⟩) Wp ?_;rintro _ _ _ ⟨js,seen,o,w,so,rfl,⟨hit,hse,hro,hoj⟩,rfl,rfl⟩;obtain ⟨qo,capo,rfl⟩:=hro.form;have hjl:=Jn es.size js hit.nodup hit.lt
 rw [hm.size]at hjl;refine Zq<|Zg<|Ze (SF hm hit Y Wo Wh) ?_;rintro _ _ hnx;rcases hnx with⟨hdone,rfl,rfl⟩|⟨jn,pn,seen2,hpn,hjn,hi2,rfl,rfl⟩
 ·
  refine Zd Y rfl<|Z0<|Zx<|Zq ?_;refine Af Y (fun hb=>?_) (fun hb=>?_)
  ·
   cases hb
  refine Au<|Zt<|Zt<|AO<|Zx<|Zq<|Zg<|Zm Y<|Zv (Bo (vs:=[]) (us:=[_]) Y Y) ?_;refine Zc [_,_] Y call209 Y rfl (hS cb c _ o so hc (by omega) hro) ?_;rintro _ _ ⟨_,⟨rfl,so2,o2,hpm,hpw,hro2,rfl⟩,rfl⟩;refine Z0<|Zx<|Zq<|Zg<|Zm Y<|Za Y<|Z0<|Zx<|A9 ?_;refine AC rfl results123 Y (by exact ⟨so2,o2,hro2,hpm.trans (hse.done hm hR hs hdone),hpw,rfl⟩)
 obtain ⟨r,hr,rfl⟩:=(hR.mem pn).1 (tV hpn);refine Zd Y rfl<|Z0<|Zx<|Zq ?_;refine Af Y (fun hb=>?_) (fun hb=>?_)
 ·
  have hjl2:=Jn es.size (js++[jn]) hi2.nodup hi2.lt;rw [hm.size,tJ,tT]at hjl2;have hla:(js++[jn]).length=js.length+1:=by rw [tJ];rfl
  have hse2:=hse.push (r:=r) (rs:=rs) hpn;have hse2t:(inT t) r=true→PR lm (inT t) (js++[jn]) (o++[r]):=fun h=>by rw [h]at hse2;exact hse2
  have hse2f:(inT t) r=false→PR lm (inT t) (js++[jn]) o:=fun h=>by rw [h]at hse2;simpa using hse2
  refine AB<|Zx<|AQ<|Zq<|Zg<|Cf (cs:=[(ib,.mapIter (some mb) ck seen2 ck),(mb,.map es ck)]) (by simp) (Qa hm hi2 hpn Y) rfl rfl ?_;refine Zd Y rfl<|Ze (Al zeroValue113 #[_,_,_,_,_]) ?_;rintro _ _ ⟨xb,rfl,rfl⟩;refine Xe (Xw sizeOf113 #[I4 r.t,I4 r.k,I4 r.v.a,I4 r.v.b,I4 r.v.c]) ?_;refine Z0<|Zx<|Zq<|Zg<|Zm Y<|Zo Wh (Pa #[_,_,_,_,_] isAgg113 sizeOf113 Y) ?_;refine Xr [_] Y call179 Y rfl (mE r t b1) ?_;refine Z0<|Zx ?_;refine Af Y (fun hin=>?_) (fun hin=>?_)
  ·
   refine Zg<|Zm Y<|Zo Wh (Pa #[_,_,_,_,_] isAgg113 sizeOf113 Y) ?_;refine Ze (Ae (vs:=[_]) (cs:=[_,_,_,_,_]) underlying45 sizeOf113 zeroValue113 Y rfl rfl rfl rfl rfl) ?_;rintro _ _ ⟨gb,rfl,rfl⟩;refine Ze (BQ (by_:=40) (sz:=5) underlying45 (rfl:Tryz.prog.info? 113=some Tryz.t113) rfl rfl rfl rfl Y (hro) Y (DW 5 gb 1 1 113 (0,0) [I4 r.t,I4 r.k,I4 r.v.a,I4 r.v.b,I4 r.v.c] rfl) Wo Wo (by simp [Value.oneCell']) (by omega) (by omega)) ?_;rintro _ _ ⟨sa9,hra9,rfl⟩;have hnew:=BO hra9 (n':=(o++[r]).length) (xs':=Ac (o++[r])) (by rw [tJ];rfl) (by rw [BZ];rfl)
   obtain ⟨ga9,ca9,rfl⟩:=hra9.form;refine Za Y<|Z0<|Zn [2,4,7,17] ?_;refine A8<|Zn [7,2,4,17] ?_;refine Ab (e':=[(7,_)]) (by exact ⟨js++[jn],seen2,o++[r],_,_,rfl,⟨hi2,hse2t hin,hnew,by rw [tJ,tJ];simp;omega⟩,rfl,rfl⟩)
  refine AB<|A8<|Zn [7,2,4,17] ?_;refine Ab (e':=[(7,_)]) (by exact ⟨js++[jn],seen2,o,_,so,rfl,⟨hi2,hse2f hin,hro,by rw [tJ];omega⟩,rfl,rfl⟩)
 cases hb
def Nj(v:Value)(p:Int)(rs:List AP)(s:List AR):Prop:=∃sp mb es ck lm,v=I5 sp∧Ev K2 es ck lm∧Fy lm rs∧BI rs∧rs.length≤2000∧s=[(sp,.cells #[.map (some mb),I4 p] 175 (0,0)),(mb,.map es ck)]
theorem ay(sp mb:Nat)(p:Int)(es:Array MapEntry)(ck:Nat)(lm:List ((Int×Int)×Value))(rs:List AP)(hm:Ev K2 es ck lm)(hR:Fy lm rs)(hs:BI rs)(hn:rs.length≤2000)(t:Int)(c:Nat)(lo hi:Int)(hc:c≤3):
 CF Tryz.prog 53 #[I5 sp,I4 t,I4 (c:Int),I4 lo,I4 hi] [[(sp,.cells #[.map (some mb),I4 p] 175 (0,0))],[(mb,.map es ck)]] (fun r H'=>∃so,BV 5 113 r (Ch rs t c lo hi).length (Ac (Ch rs t c lo hi)) so∧H'=[so,[(sp,.cells #[.map (some mb),I4 p] 175 (0,0))],[(mb,.map es ck)]]):=by
 refine Se func53 ntmps53 [0,1,2,3,4] ?_;intro u R;refine Zq<|Zg<|Ze (Bx #[_]) ?_;rintro _ _ ⟨b2,rfl,rfl⟩;refine Ze (Bx #[_]) ?_;rintro _ _ ⟨b1,rfl,rfl⟩;refine Ze (Bx #[_]) ?_;rintro _ _ ⟨b3,rfl,rfl⟩;refine Ze (Bx #[_]) ?_;rintro _ _ ⟨b4,rfl,rfl⟩;refine Za Y<|Z0<|Zx<|Zq<|Zq<|Zg<|Zl isAgg3 Y ?_;refine Zv (Aq (n:=0) Y Y)<|Zm Y ?_;refine Ai (t:=13) Y rfl (fun h1=>?_) (fun h1=>?_)
 ·
  exfalso;(cases h1;done)
 refine Yl isAgg3 Y ?_;refine Yg (FW (n:=4) Y Y)<|Zv (AA Y Y)<|Z0<|Zx ?_;refine Ao Y (fun h2=>?_) (fun h2=>?_)
 ·
  exfalso;omega
 refine AB<|Zx<|Zq<|Zg<|Zm Y<|Zl isAgg3 Y ?_;refine Zv (Bo (vs:=[]) (us:=[_,_,_,_]) Y Y) ?_;refine Zc [_,_,_] Y call123 Y rfl (Um ZN sp mb p es ck lm rs hm hR hs hn t c lo hi hc b1 b2 b3 b4) ?_;rintro _ _ ⟨_,⟨so,o,hro,hpm,hpw,rfl⟩,rfl⟩;have e9:=Sr hs hpm hpw
 subst e9;refine Za Y<|Z0<|Zn [10] ?_;refine Zx<|A9 ?_;refine AC rfl results53 Y (by exact ⟨so,hro,rfl⟩)
theorem VH(v:Value)(p:Int)(rs:List AP)(s:List AR)(hv:Nj v p rs s)(t:Int)(c:Nat)(lo hi:Int)(hc:c≤3):CF Tryz.prog 53 #[v,I4 t,I4 (c:Int),I4 lo,I4 hi] [s] (fun r H'=>∃so,BV 5 113 r (Ch rs t c lo hi).length (Ac (Ch rs t c lo hi)) so∧H'=[so,s]):=by
 obtain ⟨sp,mb,es,ck,lm,rfl,hm,hR,hs,hn,rfl⟩:=hv;refine ED (ay sp mb p es ck lm rs hm hR hs hn t c lo hi hc) (by simp) ?_;rintro r H' ⟨so,hro,rfl⟩;exact ⟨_,⟨so,hro,rfl⟩,by simp⟩
theorem gU(sp mb:Nat)(p:Int)(es:Array MapEntry)(ck:Nat)(lm:List ((Int×Int)×Value))(rs:List AP)(hm:Ev K2 es ck lm)(hR:Fy lm rs)(hs:BI rs)(hn:rs.length≤2000)(t:Int):
 CF Tryz.prog 89 #[I5 sp,I4 t] [[(sp,.cells #[.map (some mb),I4 p] 175 (0,0))],[(mb,.map es ck)]] (fun r H'=>∃so,BV 5 113 r (FK rs t).length (Ac (FK rs t)) so∧H'=[so,[(sp,.cells #[.map (some mb),I4 p] 175 (0,0))],[(mb,.map es ck)]]):=by
 refine Se func89 ntmps89 [0,1] ?_;intro u R;refine Zq<|Zg<|Ze (Bx #[_]) ?_;rintro _ _ ⟨b1,rfl,rfl⟩;refine Za Y<|Z0<|Zx<|Zq<|Zg<|Zm Y<|Zv (Bo (vs:=[]) (us:=[_]) Y Y) ?_;refine Zc [_,_,_] Y call123 Y rfl (X8 ZN sp mb p es ck lm rs hm hR hs hn t 0 (by omega) b1) ?_;rintro _ _ ⟨_,⟨so,o,hro,hpm,hpw,rfl⟩,rfl⟩;have e9:o=FK rs t:=lZ hs hpm hpw
 subst e9;refine Za Y<|Z0<|Zx<|A9 ?_;refine AC rfl results89 Y (by exact ⟨so,hro,rfl⟩)
theorem lu(v:Value)(p:Int)(rs:List AP)(s:List AR)(hv:Nj v p rs s)(t:Int):CF Tryz.prog 89 #[v,I4 t] [s] (fun r H'=>∃so,BV 5 113 r (FK rs t).length (Ac (FK rs t)) so∧H'=[so,s]):=by
 obtain ⟨sp,mb,es,ck,lm,rfl,hm,hR,hs,hn,rfl⟩:=hv;refine ED (gU sp mb p es ck lm rs hm hR hs hn t) (by simp) ?_;rintro r H' ⟨so,hro,rfl⟩;exact ⟨_,⟨so,hro,rfl⟩,by simp⟩
end Go.Proofs.YtkdgffcfmgmemaaGreatDoor
