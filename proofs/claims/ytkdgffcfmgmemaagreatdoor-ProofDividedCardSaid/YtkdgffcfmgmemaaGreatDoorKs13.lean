/- The rows of a range, of a table: one list. -/
import Derived.Test.YtkdgffcfmgmemaaGreatDoorEz
import Derived.Test.YtkdgffcfmgmemaaGreatDoorKs12
import Derived.Test.YtkdgffcfmgmemaaGreatDoorEx22
set_option linter.unusedVariables false
set_option linter.unusedSimpArgs false
namespace Go.Proofs.YtkdgffcfmgmemaaGreatDoor
open Go.Proofs.Tryz
open Go Go.RowKit Gw
set_option maxRecDepth 100000
attribute [local irreducible] Gw.At Gw.Nx Gw.Ops
theorem Tx(c:Nat)(out:List AQ)(x:AQ):∃A B,out=A++B∧S9 c out x=A++[x]++B∧(∀r∈B,DZ x c<DZ r c)∧(A=[]∨∃A' r,A=A'++[r]∧DZ r c≤DZ x c):=by
 let q:AQ→Bool:=fun r=>decide (DZ x c<DZ r c)
 have e:out=(out.reverse.dropWhile q).reverse++(out.reverse.takeWhile q).reverse:=by
  rw [←xG,List.takeWhile_append_dropWhile,List.reverse_reverse]
 have hp:OM c out (DZ x c)=(out.reverse.dropWhile q).reverse.length:=by
  rw [xx];rfl
 refine ⟨(out.reverse.dropWhile q).reverse,(out.reverse.takeWhile q).reverse,e,?_,?_,?_⟩
 · unfold S9
   rw [hp];generalize (out.reverse.dropWhile q).reverse=A at*;generalize (out.reverse.takeWhile q).reverse=B at*;subst e;rw [vG,xL];all_goals rfl
 · intro r hr
   rw [yL]at hr;have:=List.all_takeWhile (p:=q) (l:=out.reverse)
   rw [vX]at this;simpa [q]using this r hr
 · cases h:out.reverse.dropWhile q with
   |nil=>left;rfl
   |cons r l=>
    right;refine ⟨l.reverse,r,by simp,?_⟩;have:=List.head?_dropWhile_not q out.reverse
    rw [h]at this;simpa [q]using this
theorem Tw(c:Nat)(out:List AQ)(x:AQ):(S9 c out x).Perm (x::out):=by
 obtain ⟨A,B,e1,e2,_,_⟩:=Tx c out x;rw [e2,e1,uF];exact ul
theorem RA(c:Nat):∀(l out:List AQ),(l.foldl (S9 c) out).Perm (out++l)
 |[],out=>by simp
 |x::l,out=>by
  rw [xR];refine (RA c l _).trans ?_;refine ((Tw c out x).append_right l).trans ?_;exact ul.symm
theorem Wi{c:Nat}{out:List AQ}{x:AQ}(h:out.Pairwise (leV c))(hk:∀r∈out,r.k<x.k):(S9 c out x).Pairwise (leV c):=by
 obtain ⟨A,B,e1,e2,hB,hA⟩:=Tx c out x;rw [e2];rw [e1]at h hk;rw [vR]at h;obtain ⟨h1,h2,h3⟩:=h;have hA2:∀r∈A,DZ r c≤DZ x c:=by
  rcases hA with rfl|⟨A',r0,rfl,h0⟩
  · intro r hr;simp at hr
  · intro r hr
    rcases uQ.1 hr with hr'|hr'
    · rw [vR]at h1
      have:=h1.2.2 r hr' r0 (by simp);unfold leV at this;omega
    · rw [uL]at hr'
      subst hr';exact h0
 rw [uF,vR];refine ⟨h1,?_,?_⟩
 · rw [uo,wS]
   exact ⟨fun r hr=> .inl (hB r hr),h2⟩
 · intro a ha b hb
   rw [uo,uV]at hb;rcases hb with rfl|hb
   · have h4:=hA2 a ha
     have h5:=hk a (uZ _ ha);unfold leV;omega
   · exact h3 a ha b hb
theorem Ng(c:Nat):∀(l out:List AQ),out.Pairwise (leV c)→l.Pairwise (fun a b=>a.k<b.k)→(∀r∈out,∀x∈l,r.k<x.k)→(l.foldl (S9 c) out).Pairwise (leV c)
 |[],out,h,_,_=>h
 |x::l,out,h,h2,h3=>by
  rw [xR];rw [wS]at h2;refine Ng c l _ (Wi h fun r hr=>h3 r hr x (by simp)) h2.2 ?_;intro r hr y hy;have:=(Tw c out x).mem_iff.1 hr
  rcases uV.1 this with rfl|hm
  · exact h2.1 y hy
  · exact h3 r hm y (by simp [hy])
theorem Lt{rs:List AQ}{t:Int}{f:AQ→Bool}(hs:BJ rs)(hf:∀r,f r=true→r.t=t):(rs.filter f).Pairwise (fun a b=>a.k<b.k):=by
 have h1:(rs.filter f).Pairwise (fun a b=>a.lt2 b.t b.k):=hs.filter f;refine h1.imp_of_mem ?_;intro a b ha hb hab;have h2:=hf a (wF.1 ha).2
 have h3:=hf b (wF.1 hb).2;unfold AQ.lt2 at hab;omega
theorem jl{l:List AQ}(h:l.Pairwise (fun a b=>a.k<b.k)):∀a∈l,∀b∈l,a.k=b.k→a=b:=by
 induction l with
 |nil=>intro a ha;simp at ha
 |cons x l ih=>
  rw [wS]at h;intro a ha b hb e;rcases uV.1 ha with ea|ha'<;>rcases uV.1 hb with eb|hb'
  · rw [ea,eb]
  · have:=h.1 b hb';rw [ea]at e;omega
  · have:=h.1 a ha';rw [eb]at e;omega
  · exact ih h.2 a ha' b hb' e
theorem aS{t:Int}{c:Nat}{lo hi:Int}{r:AQ}(h:inR t c lo hi r=true):r.t=t:=(of_decide_eq_true h).1
theorem ES(rs:List AQ)(t:Int)(c:Nat)(lo hi:Int):(Cn rs t c lo hi).Perm (rs.filter (inR t c lo hi)):=by
 have:=RA c (rs.filter (inR t c lo hi)) [];rw [vg]at this;exact this
theorem Ed{rs:List AQ}(hs:BJ rs)(t:Int)(c:Nat)(lo hi:Int):(Cn rs t c lo hi).Pairwise (leV c):=
 Ng c _ [] .nil (Lt hs fun r h=>aS h) (by intro r hr;simp at hr)
theorem MU{rs:List AQ}(hs:BJ rs){t:Int}{f:AQ→Bool}(hf:∀r,f r=true→r.t=t){c:Nat}{a b:List AQ}(ha:a.Perm (rs.filter f))(hb:b.Perm (rs.filter f))(h1:a.Pairwise (leV c))(h2:b.Pairwise (leV c)):a=b:=by
 have hk:=Lt hs hf;refine (ha.trans hb.symm).eq_of_pairwise ?_ h1 h2;intro x y hx hy hxy hyx;refine jl hk x (ha.mem_iff.1 hx) y (hb.mem_iff.1 hy) ?_;unfold leV at hxy hyx;omega
theorem TE{rs:List AQ}(hs:BJ rs){t:Int}{c:Nat}{lo hi:Int}{o:List AQ}(h1:o.Perm (rs.filter (inR t c lo hi)))(h2:o.Pairwise (leV c)):o=Cn rs t c lo hi:=
 MU hs (fun r h=>aS h) h1 (ES rs t c lo hi) h2 (Ed hs t c lo hi)
def inT(t:Int)(r:AQ):Bool:=decide (r.t=t)
def FN(rs:List AQ)(t:Int):List AQ:=rs.filter (inT t)
theorem mG{rs:List AQ}(hs:BJ rs){t:Int}{o:List AQ}(h1:o.Perm (FN rs t))(h2:o.Pairwise (leV 0)):o=FN rs t:=by
 refine MU (f:=inT t) (t:=t) hs (fun r h=>of_decide_eq_true h) h1 (.refl _) h2 ?_;refine (Lt (t:=t) (f:=inT t) hs (fun r h=>of_decide_eq_true h)).imp ?_;intro a b h;unfold leV DZ;simp only [if_pos];omega
theorem mU(r:AQ)(t:Int)(b1:Nat):Az Tryz.prog 179 #[.agg #[I4 r.t,I4 r.k,I4 r.v.a,I4 r.v.b,I4 r.v.c],I5 b1] [[(b1,.cells #[I4 t] 3 (0,0))]] (.bool (inT t r)):=by
 refine Se func179 ntmps179 [0,1] ?_;intro u R;refine Zq<|Zg<|Ze (Bx #[_,_,_,_,_]) ?_;rintro _ _ ⟨b1,rfl,rfl⟩;refine Za Y<|Z0<|Zx<|Zq<|Zg<|Zh 0 underlying113 rfl rfl sizeOf3 Y<|Zl isAgg3 Y ?_;refine Zl isAgg3 Y ?_;refine Zv (CO Y Y)<|Za Y<|Z0<|Zx<|AA ?_;refine AJ rfl results179 Y (by exact ⟨rfl,rfl⟩)
theorem XJ(hS:ZC)(sp mb:Nat)(p:Int)(es:Array MapEntry)(ck:Nat)(lm:List ((Int×Int)×Value))(rs:List AQ)(hm:Ey K2 es ck lm)(hR:G9 lm rs)(hs:BJ rs)(hn:rs.length≤2000)(t:Int)(c:Nat)(hc:c≤3)(b1:Nat):
 CQ Tryz.prog 123 #[I5 sp,I4 (c:Int),.func (.func 179) #[] #[I5 b1]] [[(sp,.cells #[.map (some mb),I4 p] 175 (0,0))],[(mb,.map es ck)],[(b1,.cells #[I4 t] 3 (0,0))]] (fun r H'=>∃(so:List AU) (o:List AQ),BZ 5 113 r o.length (Ae o) so∧o.Perm (rs.filter (inT t))∧o.Pairwise (leV c)∧H'=[so,[(sp,.cells #[.map (some mb),I4 p] 175 (0,0))],[(mb,.map es ck)],[(b1,.cells #[I4 t] 3 (0,0))]]):=by
 have hml:=mL;have hln:=hR.len hm hs
 refine Se func123 ntmps123 [0,1,2] ?_;intro u R;refine Zq<|Zg<|Ze (Bx #[_]) ?_;rintro _ _ ⟨cb,rfl,rfl⟩;refine Za Y<|Z0<|Zx<|Zq<|Zq<|Zg<|Zm Y<|Zv (EI underlying33 Y Y)<|Z0<|Zx ?_;refine Ag Y (fun h1=>?_) (fun h1=>?_)
 ·
  cases h1
 refine AB<|Zx<|Zq<|Zg<|Za Y<|Z0<|Zx<|Zq<|Zq<|Zg<|Zm Y<|Zp Y rfl<|Zh 0 underlying175 rfl rfl sizeOf173 Y<|Zv (BI (off:=0) underlying173 rfl rfl sizeOf171 Y)<|Zl isAgg171 Y ?_;refine Ze (Q0 underlying171 Y Wh) ?_;rintro _ _ ⟨ib,rfl,rfl⟩;refine Z0<|Zx<|AR<|Bf ?_;refine Zb [7,2,4,17] ?_;refine BB (e0:=[(7,_)]) (fun m e H=>∃(js:List Nat) (seen:Array Nat) (o:List AQ) (w:Value) (so:List AU),m=lm.length -js.length∧(Ld es js seen∧Pg lm (inT t) js o∧BZ 5 113 w o.length (Ae o) so∧o.length≤js.length)∧e=[(7,w)]∧H=[[(ib,.mapIter (some mb) ck seen ck)],so]) (by exact ⟨[],#[],[],.slice none 0 0,[],rfl,⟨Tt _,VZ _ _,Ba 5 _,uG _⟩,rfl,rfl⟩) Wp ?_;rintro _ _ _ ⟨js,seen,o,w,so,rfl,⟨hit,hse,hro,hoj⟩,rfl,rfl⟩;obtain ⟨qo,capo,rfl⟩:=hro.form;have hjl:=Jy es.size js hit.nodup hit.lt
 rw [hm.size]at hjl;refine Zq<|Zg<|Ze (Sa hm hit Y Wo Wh) ?_;rintro _ _ hnx;rcases hnx with⟨hdone,rfl,rfl⟩|⟨jn,pn,seen2,hpn,hjn,hi2,rfl,rfl⟩
 ·
  refine Zd Y rfl<|Z0<|Zx<|Zq ?_;refine Ag Y (fun hb=>?_) (fun hb=>?_)
  ·
   cases hb
  refine Aw<|Zt<|Zt<|AP<|Zx<|Zq<|Zg<|Zm Y<|Zv (Bt (vs:=[]) (us:=[_]) Y Y) ?_;refine Zc [_,_] Y call209 Y rfl (hS cb c _ o so hc (by omega) hro) ?_;rintro _ _ ⟨_,⟨rfl,so2,o2,hpm,hpw,hro2,rfl⟩,rfl⟩;refine Z0<|Zx<|Zq<|Zg<|Zm Y<|Za Y<|Z0<|Zx<|AA ?_;refine AJ rfl results123 Y (by exact ⟨so2,o2,hro2,hpm.trans (hse.done hm hR hs hdone),hpw,rfl⟩)
 obtain ⟨r,hr,rfl⟩:=(hR.mem pn).1 (uI hpn);refine Zd Y rfl<|Z0<|Zx<|Zq ?_;refine Ag Y (fun hb=>?_) (fun hb=>?_)
 ·
  have hjl2:=Jy es.size (js++[jn]) hi2.nodup hi2.lt;rw [hm.size,u6,uH]at hjl2;have hla:(js++[jn]).length=js.length+1:=by rw [u6];rfl
  have hse2:=hse.push (r:=r) (rs:=rs) hpn;have hse2t:(inT t) r=true→Pg lm (inT t) (js++[jn]) (o++[r]):=fun h=>by rw [h]at hse2;exact hse2
  have hse2f:(inT t) r=false→Pg lm (inT t) (js++[jn]) o:=fun h=>by rw [h]at hse2;simpa using hse2
  refine AB<|Zx<|AR<|Zq<|Zg<|Cm (cs:=[(ib,.mapIter (some mb) ck seen2 ck),(mb,.map es ck)]) (by simp) (Qn hm hi2 hpn Y) rfl rfl ?_;refine Zd Y rfl<|Ze (Al zeroValue113 #[_,_,_,_,_]) ?_;rintro _ _ ⟨xb,rfl,rfl⟩;refine Xe (Xw sizeOf113 #[I4 r.t,I4 r.k,I4 r.v.a,I4 r.v.b,I4 r.v.c]) ?_;refine Z0<|Zx<|Zq<|Zg<|Zm Y<|Zo Wh (Pa #[_,_,_,_,_] isAgg113 sizeOf113 Y) ?_;refine Xr [_] Y call179 Y rfl (mU r t b1) ?_;refine Z0<|Zx ?_;refine Ag Y (fun hin=>?_) (fun hin=>?_)
  ·
   refine Zg<|Zm Y<|Zo Wh (Pa #[_,_,_,_,_] isAgg113 sizeOf113 Y) ?_;refine Ze (Af (vs:=[_]) (cs:=[_,_,_,_,_]) underlying45 sizeOf113 zeroValue113 Y rfl rfl rfl rfl rfl) ?_;rintro _ _ ⟨gb,rfl,rfl⟩;refine Ze (BR (by_:=40) (sz:=5) underlying45 (rfl:Tryz.prog.info? 113=some Tryz.t113) rfl rfl rfl rfl Y (hro) Y (Da 5 gb 1 1 113 (0,0) [I4 r.t,I4 r.k,I4 r.v.a,I4 r.v.b,I4 r.v.c] rfl) Wo Wo (by simp [Value.oneCell']) (by omega) (by omega)) ?_;rintro _ _ ⟨sa9,hra9,rfl⟩;have hnew:=BP hra9 (n':=(o++[r]).length) (xs':=Ae (o++[r])) (by rw [u6];rfl) (by rw [Bb];rfl)
   obtain ⟨ga9,ca9,rfl⟩:=hra9.form;refine Za Y<|Z0<|Zn [2,4,7,17] ?_;refine A8<|Zn [7,2,4,17] ?_;refine Aa (e':=[(7,_)]) (by exact ⟨js++[jn],seen2,o++[r],_,_,rfl,⟨hi2,hse2t hin,hnew,by rw [u6,u6];simp;omega⟩,rfl,rfl⟩)
  refine AB<|A8<|Zn [7,2,4,17] ?_;refine Aa (e':=[(7,_)]) (by exact ⟨js++[jn],seen2,o,_,so,rfl,⟨hi2,hse2f hin,hro,by rw [u6];omega⟩,rfl,rfl⟩)
 cases hb
def Nv(v:Value)(p:Int)(rs:List AQ)(s:List AU):Prop:=∃sp mb es ck lm,v=I5 sp∧Ey K2 es ck lm∧G9 lm rs∧BJ rs∧rs.length≤2000∧s=[(sp,.cells #[.map (some mb),I4 p] 175 (0,0)),(mb,.map es ck)]
theorem bG(sp mb:Nat)(p:Int)(es:Array MapEntry)(ck:Nat)(lm:List ((Int×Int)×Value))(rs:List AQ)(hm:Ey K2 es ck lm)(hR:G9 lm rs)(hs:BJ rs)(hn:rs.length≤2000)(t:Int)(c:Nat)(lo hi:Int)(hc:c≤3):
 CQ Tryz.prog 53 #[I5 sp,I4 t,I4 (c:Int),I4 lo,I4 hi] [[(sp,.cells #[.map (some mb),I4 p] 175 (0,0))],[(mb,.map es ck)]] (fun r H'=>∃so,BZ 5 113 r (Cn rs t c lo hi).length (Ae (Cn rs t c lo hi)) so∧H'=[so,[(sp,.cells #[.map (some mb),I4 p] 175 (0,0))],[(mb,.map es ck)]]):=by
 refine Se func53 ntmps53 [0,1,2,3,4] ?_;intro u R;refine Zq<|Zg<|Ze (Bx #[_]) ?_;rintro _ _ ⟨b2,rfl,rfl⟩;refine Ze (Bx #[_]) ?_;rintro _ _ ⟨b1,rfl,rfl⟩;refine Ze (Bx #[_]) ?_;rintro _ _ ⟨b3,rfl,rfl⟩;refine Ze (Bx #[_]) ?_;rintro _ _ ⟨b4,rfl,rfl⟩;refine Za Y<|Z0<|Zx<|Zq<|Zq<|Zg<|Zl isAgg3 Y ?_;refine Zv (Av (n:=0) Y Y)<|Zm Y ?_;refine Aj (t:=13) Y rfl (fun h1=>?_) (fun h1=>?_)
 ·
  exfalso;(cases h1;done)
 refine Yl isAgg3 Y ?_;refine Yg (Fa (n:=4) Y Y)<|Zv (AC Y Y)<|Z0<|Zx ?_;refine Aq Y (fun h2=>?_) (fun h2=>?_)
 ·
  exfalso;omega
 refine AB<|Zx<|Zq<|Zg<|Zm Y<|Zl isAgg3 Y ?_;refine Zv (Bt (vs:=[]) (us:=[_,_,_,_]) Y Y) ?_;refine Zc [_,_,_] Y call123 Y rfl (V5 ZY sp mb p es ck lm rs hm hR hs hn t c lo hi hc b1 b2 b3 b4) ?_;rintro _ _ ⟨_,⟨so,o,hro,hpm,hpw,rfl⟩,rfl⟩;have e9:=TE hs hpm hpw
 subst e9;refine Za Y<|Z0<|Zn [10] ?_;refine Zx<|AA ?_;refine AJ rfl results53 Y (by exact ⟨so,hro,rfl⟩)
theorem VV(v:Value)(p:Int)(rs:List AQ)(s:List AU)(hv:Nv v p rs s)(t:Int)(c:Nat)(lo hi:Int)(hc:c≤3):CQ Tryz.prog 53 #[v,I4 t,I4 (c:Int),I4 lo,I4 hi] [s] (fun r H'=>∃so,BZ 5 113 r (Cn rs t c lo hi).length (Ae (Cn rs t c lo hi)) so∧H'=[so,s]):=by
 obtain ⟨sp,mb,es,ck,lm,rfl,hm,hR,hs,hn,rfl⟩:=hv;refine EP (bG sp mb p es ck lm rs hm hR hs hn t c lo hi hc) (by simp) ?_;rintro r H' ⟨so,hro,rfl⟩;exact ⟨_,⟨so,hro,rfl⟩,by simp⟩
theorem iD(sp mb:Nat)(p:Int)(es:Array MapEntry)(ck:Nat)(lm:List ((Int×Int)×Value))(rs:List AQ)(hm:Ey K2 es ck lm)(hR:G9 lm rs)(hs:BJ rs)(hn:rs.length≤2000)(t:Int):
 CQ Tryz.prog 89 #[I5 sp,I4 t] [[(sp,.cells #[.map (some mb),I4 p] 175 (0,0))],[(mb,.map es ck)]] (fun r H'=>∃so,BZ 5 113 r (FN rs t).length (Ae (FN rs t)) so∧H'=[so,[(sp,.cells #[.map (some mb),I4 p] 175 (0,0))],[(mb,.map es ck)]]):=by
 refine Se func89 ntmps89 [0,1] ?_;intro u R;refine Zq<|Zg<|Ze (Bx #[_]) ?_;rintro _ _ ⟨b1,rfl,rfl⟩;refine Za Y<|Z0<|Zx<|Zq<|Zg<|Zm Y<|Zv (Bt (vs:=[]) (us:=[_]) Y Y) ?_;refine Zc [_,_,_] Y call123 Y rfl (XJ ZY sp mb p es ck lm rs hm hR hs hn t 0 (by omega) b1) ?_;rintro _ _ ⟨_,⟨so,o,hro,hpm,hpw,rfl⟩,rfl⟩;have e9:o=FN rs t:=mG hs hpm hpw
 subst e9;refine Za Y<|Z0<|Zx<|AA ?_;refine AJ rfl results89 Y (by exact ⟨so,hro,rfl⟩)
theorem mO(v:Value)(p:Int)(rs:List AQ)(s:List AU)(hv:Nv v p rs s)(t:Int):CQ Tryz.prog 89 #[v,I4 t] [s] (fun r H'=>∃so,BZ 5 113 r (FN rs t).length (Ae (FN rs t)) so∧H'=[so,s]):=by
 obtain ⟨sp,mb,es,ck,lm,rfl,hm,hR,hs,hn,rfl⟩:=hv;refine EP (iD sp mb p es ck lm rs hm hR hs hn t) (by simp) ?_;rintro r H' ⟨so,hro,rfl⟩;exact ⟨_,⟨so,hro,rfl⟩,by simp⟩
end Go.Proofs.YtkdgffcfmgmemaaGreatDoor
