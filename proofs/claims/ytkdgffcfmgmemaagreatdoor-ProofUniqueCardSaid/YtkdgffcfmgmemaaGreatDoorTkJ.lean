/- The law ProofUnique. -/
/- A case of chapter 11 as an argument. -/
/- Arguments of three integers, and of three times three. -/
/- A result as an argument. -/
/- ProofUnique as its card wants it. -/
/- The facts that a card wants, one by one. -/
import Derived.Test.YtkdgffcfmgmemaaGreatDoorEz
import Derived.Test.YtkdgffcfmgmemaaGreatDoorPz4
import Derived.Test.YtkdgffcfmgmemaaGreatDoorTk1
import Derived.Test.YtkdgffcfmgmemaaGreatDoorTr3
import Derived.JoinedOf
set_option linter.unusedVariables false
set_option linter.unusedSimpArgs false
namespace Go.Proofs.YtkdgffcfmgmemaaGreatDoor
open Go.Proofs.Tryz
open Go Go.RowKit Gw
set_option maxRecDepth 100000
attribute [local irreducible] Gw.At Gw.Nx Gw.Ops
theorem Xa{M:List AR}{p:Option Addr}{cap:Nat}{rs:List AP}(h:DV M (.slice p rs.length cap) rs)(k:Nat)(hk:k≤rs.length):DV M (.slice p (rs.take k).length cap) (rs.take k):=by
 obtain ⟨p9,cap9,e,hl,hg⟩:=h;injection e with e1 e2 e3
 subst e1 e3;have e4:(rs.take k).length=k:=by rw [tL];exact wB hk
 refine ⟨p,cap,rfl,by omega,fun i z hz=>hg i z ?_⟩;rw [uX]at hz;split at hz
 · exact hz
 · cases hz
theorem nS{E M A:List AR}(base until_:Cm){z:GG}(hz:z.ok (E++(M++A)))(hs:∀x∈z.a.ranges,x.small)(hrl:z.a.ranges.length≤1000000)(hb:-1000000000000≤z.a.base∧z.a.base≤1000000000000)(hcs:∀x∈z.a.recs,x.cs.length≤1000){r:CG}(hr:FY z.a.q z.a.ranges=some r)(Tg:TypeId)(zg:Nat×Nat):Av Tryz.prog 26 #[.agg #[I4 base.p,.string (str base.ch),.string (str base.st)],.agg #[I4 until_.p,.string (str until_.ch),.string (str until_.st)],.agg #[I4 z.a.q.kd,I4 z.a.q.tb,I4 z.a.q.cl,I4 z.a.q.lo,I4 z.a.q.hi,I4 z.a.q.bq,I4 z.a.q.ot,.slice z.rp z.a.res.rows.length z.rc,I4 z.a.res.val,.bool z.a.res.fnd,I4 z.a.since,I4 z.a.until_,I4 z.a.base,.slice z.gp z.a.ranges.length z.gc,.slice z.cp z.a.recs.length z.cc]] [[(1,.cells (Cs.map Bj).toArray Tg zg)],E,M,A] (.bool (decide (FO base until_ z.a))):=by
 refine EB (aO base until_ hz hs hrl hb hcs hr Tg zg) (by simp) ?_;rintro r H' ⟨rfl,rfl⟩;exact ⟨_,⟨rfl,rfl⟩,by simp⟩
theorem nO{E M A:List AR}{va vb:Value}{x y:CG}(ha:DV (E++M) va x.rows)(hb:DV A vb y.rows):Av Tryz.prog 31 #[.agg #[va,I4 x.val,.bool x.fnd],.agg #[vb,I4 y.val,.bool y.fnd]] [E,M,A] (.bool (decide (x=y))):=by
 refine EB (R3 (M:=E++(M++A)) (ha.mono (fun c hc=>by rw [←tO];exact u6 _ hc)) (hb.mono (fun c hc=>tZ _ (tZ _ hc)))) (by simp) ?_;rintro r H' ⟨rfl,rfl⟩;exact ⟨_,⟨rfl,rfl⟩,by simp⟩
set_option maxHeartbeats 4000000 in
theorem gB{M:List AR}{v:Value}{xs:List (List Int)}(hX:Ni M v xs)(q0 q1 q2 q3 q4 cb cu:Int)(hq01:-9223372036854775808≤q0)(hq02:q0≤9223372036854775807)(hq11:-9223372036854775808≤q1)(hq12:q1≤9223372036854775807)(hq21:-9223372036854775808≤q2)(hq22:q2≤9223372036854775807)(hq31:-9223372036854775808≤q3)(hq32:q3≤9223372036854775807)(hq41:-9223372036854775808≤q4)(hq42:q4≤9223372036854775807)(hcb1:-9223372036854775808≤cb)(hcb2:cb≤9223372036854775807)(hcu1:-9223372036854775808≤cu)(hcu2:cu≤9223372036854775807)(tw:Value){pr:Option Addr}{cr:Nat}{rs3:List AP}(h3:DV M (.slice pr rs3.length cr) rs3)(rv:Int)(rf:Bool)(w1 w2:Int)(hw21:-9223372036854775808≤w2)(hw22:w2≤9223372036854775807)(Tg:TypeId)(zg:Nat×Nat):Av Tryz.prog 5 #[.agg #[v,I4 q0,I4 q1,I4 q2,I4 q3,I4 q4,I4 cb,I4 cu,tw],.agg #[.slice pr rs3.length cr,I4 rv,.bool rf],I4 w1,I4 w2] [[(1,.cells (Cs.map Bj).toArray Tg zg)],M] (.bool true):=by
 have hml:=mL;have h3l:rs3.length≤maxLen∧rs3.length≤cr:=by obtain ⟨p9,c9,e9,h9,_⟩:=id h3;injection e9 with e91 e92 e93;subst e93;exact h9
 obtain ⟨ys,hys⟩:∃ys,ys=rs3.take (min rs3.length 10):=⟨_,rfl⟩;have hyl:min rs3.length 10=ys.length:=by rw [hys,tL];omega
 have hyU:=Xa h3 (min rs3.length 10) (Nat.min_le_left _ _);rw [←hys]at hyU;refine Se func5 ntmps5 [0,1,2,3] ?_;intro u R;refine Zq<|Zg<|Ze (Bx #[v,I4 q0,I4 q1,I4 q2,I4 q3,I4 q4,I4 cb,I4 cu,tw]) ?_;rintro _ _ ⟨bc,rfl,rfl⟩;refine Ze (Bx #[.slice pr rs3.length cr,I4 rv,.bool rf]) ?_;rintro _ _ ⟨br,rfl,rfl⟩;refine Za Y<|Z0<|Zx<|Zq<|Zg<|Xr [] Y call11 Y rfl (og Tg zg) ?_;refine Za Y<|Z0<|Zx<|Zq<|Zg<|Zo Wh (AX (cs:=#[_,_,_,_,_,_,_,_,_]) isAgg26 sizeOf26 Y (by exact tQ _) (by exact Au rfl)) ?_;refine Zc [_] Y call12 Y rfl (Vj hX q0 q1 q2 q3 q4 cb cu hq01 hq02 hq11 hq12 hq21 hq22 hq31 hq32 hq41 hq42 hcb1 hcb2 hcu1 hcu2 tw) ?_;rintro _ _ ⟨_,⟨l,p,cap,s,q,a,b,hlog,hll,hRI,hq,hab,hb,rfl,rfl⟩,rfl⟩;obtain ⟨p9,cap9,e9,⟨hl1,hl2⟩,hgl⟩:=id hRI;injection e9 with e91 e92 e93
 subst e91 e93;refine Zm Y<|Zd Y rfl<|Zd Y rfl<|Zd Y rfl<|Zd Y rfl<|Ze (Al zeroValue30 #[_,_,_,_,_,_,_]) ?_;rintro _ _ ⟨bq,rfl,rfl⟩;refine Za Y<|Xe (Xw sizeOf30 #[I4 q.kd,I4 q.tb,I4 q.cl,I4 q.lo,I4 q.hi,I4 q.bq,I4 q.ot]) ?_;refine Za Y<|Za Y<|Z0<|Zn [2,3,5,9,10,11,12,13] ?_;refine Zx<|Zq<|Zg<|Zm Y<|Zm Y<|Zm Y<|Zo Wh (AX (cs:=#[_,_,_,_,_,_,_]) isAgg30 sizeOf30 Y (by exact tQ _) (by exact Au rfl)) ?_;refine Zc [_,_,_,_] Y call29 Y rfl (Um hRI hlog hll a b hab hb q hq Tg zg) ?_;rintro _ _ ⟨_,⟨z1,E1,t1,pg1,cg1,hz1,hR1,rfl,rfl⟩,rfl⟩;obtain ⟨L1,hL1⟩:∃L,L=Ec (Bh (l.take a)) q:=⟨_,rfl⟩;rw [←hL1]at hR1⊢;refine Zm Y<|Zd Y rfl<|Zd Y rfl<|Zd Y rfl<|Ze (Al zeroValue57 #[_,_,_,_,_,_,_,_,_,_]) ?_;rintro _ _ ⟨b3,rfl,rfl⟩;refine Ze (Al zeroValue53 #[_,_,_,_,_,_,_,_,_,_,_,_,_,_,_]) ?_;rintro _ _ ⟨b4,rfl,rfl⟩;refine Xe (Xw sizeOf57 #[I4 q.kd,I4 q.tb,I4 q.cl,I4 q.lo,I4 q.hi,I4 q.bq,I4 q.ot,I4 0,I4 (a:Int),.slice pg1 L1.length cg1]) ?_;refine Xe (Xw sizeOf53 #[I4 z1.a.q.kd,I4 z1.a.q.tb,I4 z1.a.q.cl,I4 z1.a.q.lo,I4 z1.a.q.hi,I4 z1.a.q.bq,I4 z1.a.q.ot,.slice z1.rp z1.a.res.rows.length z1.rc,I4 z1.a.res.val,.bool z1.a.res.fnd,I4 z1.a.since,I4 z1.a.until_,I4 z1.a.base,.slice z1.gp z1.a.ranges.length z1.gc,.slice z1.cp z1.a.recs.length z1.cc]) ?_;refine Za Y<|Z0<|Zn [2,3,5,9,10,12,13,15,16] ?_;refine Zx<|Zq<|Zq<|Zg<|Zm Y<|Zv (Ca Y)<|Z0<|Zx ?_;refine Af Y (fun k1=>?_) (fun k1=>?_)
 ·
  refine Zq<|Zg<|Zm Y<|Za Y<|Z0<|Zx<|A9<|Zt ?_;refine AB rfl results5 Y (by exact ⟨rfl,rfl⟩)
 obtain rfl:t1=true:=by simpa using k1
 obtain ⟨hb1,hzo1⟩:EC l a b q=some z1.a∧z1.ok (E1++s):=by rcases hz1 with⟨_,h9⟩|⟨h9,_⟩;exact h9;cases h9
 obtain ⟨f1,f2,f3,f4,f5⟩:=L9 hlog hll hab hb hq hb1;have ck:=LA hlog hll hab hb hq hb1
 refine AC<|Zx<|Zq<|Zg<|Zm Y<|Zc [_] Y call22 Y rfl (Sk hRI hlog (by omega)) ?_;rintro _ _ ⟨_,⟨sh,hsh,rfl⟩,rfl⟩;obtain ⟨gh,ch,curh,zh,rfl,rfl,hw⟩:=WO hsh (by omega);have hwa:=hw a (by omega)
 have hwb:=hw b (by omega);obtain ⟨h1,hh1⟩:∃h,h=EG l a:=⟨_,rfl⟩;obtain ⟨h2,hh2⟩:∃h,h=EG l b:=⟨_,rfl⟩;rw [←hh1]at hwa;rw [←hh2]at hwb;rw [←hh1,←hh2]at ck;have ckl:∀(y:Lp) (u:Cm),(y.q=z1.a.q∧y.base=z1.a.base∧y.ranges=z1.a.ranges∧y.recs=z1.a.recs)→FO h1 u y→y.eqv z1.a∧u.p=y.until_∧u.p=(b:Int):=fun y u hy=>by rw [hh1];exact R9 hlog hll hab hb hq hb1 hy
 have c1:FO h1 h2 (⟨⟨z1.a.q,(⟨ys,rv,rf⟩:CG),z1.a.since,z1.a.until_,z1.a.base,z1.a.ranges,z1.a.recs⟩,pr,cr,z1.gp,z1.gc,z1.cp,z1.cc⟩:GG).a↔z1.a.res=(⟨ys,rv,rf⟩:CG):=⟨fun h9=>((ckl (⟨⟨z1.a.q,(⟨ys,rv,rf⟩:CG),z1.a.since,z1.a.until_,z1.a.base,z1.a.ranges,z1.a.recs⟩,pr,cr,z1.gp,z1.gc,z1.cp,z1.cc⟩:GG).a h2 ⟨rfl,rfl,rfl,rfl⟩ h9).1.2.2.2.2.1).symm,fun h9=>by rw [←h9];exact ck⟩;have c2:FO h1 h2 (⟨⟨z1.a.q,z1.a.res,w1,z1.a.until_,z1.a.base,z1.a.ranges,z1.a.recs⟩,z1.rp,z1.rc,z1.gp,z1.gc,z1.cp,z1.cc⟩:GG).a↔w1=z1.a.since:=⟨fun h9=>(ckl (⟨⟨z1.a.q,z1.a.res,w1,z1.a.until_,z1.a.base,z1.a.ranges,z1.a.recs⟩,z1.rp,z1.rc,z1.gp,z1.gc,z1.cp,z1.cc⟩:GG).a h2 ⟨rfl,rfl,rfl,rfl⟩ h9).1.2.1,fun h9=>by rw [h9];exact ck⟩
 have c3:∀u,FO h1 u (⟨⟨z1.a.q,z1.a.res,z1.a.since,w2,z1.a.base,z1.a.ranges,z1.a.recs⟩,z1.rp,z1.rc,z1.gp,z1.gc,z1.cp,z1.cc⟩:GG).a→w2=(b:Int):=fun u h9=>by have h8:=ckl (⟨⟨z1.a.q,z1.a.res,z1.a.since,w2,z1.a.base,z1.a.ranges,z1.a.recs⟩,z1.rp,z1.rc,z1.gp,z1.gc,z1.cp,z1.cc⟩:GG).a u ⟨rfl,rfl,rfl,rfl⟩ h9;exact h8.2.1.symm.trans h8.2.2
 refine Za Y<|Z0<|Zx<|Zq<|Zg<|Zo Wh (AX (cs:=#[I4 z1.a.q.kd,I4 z1.a.q.tb,I4 z1.a.q.cl,I4 z1.a.q.lo,I4 z1.a.q.hi,I4 z1.a.q.bq,I4 z1.a.q.ot,.slice z1.rp z1.a.res.rows.length z1.rc,I4 z1.a.res.val,.bool z1.a.res.fnd,I4 z1.a.since,I4 z1.a.until_,I4 z1.a.base,.slice z1.gp z1.a.ranges.length z1.gc,.slice z1.cp z1.a.recs.length z1.cc]) isAgg53 sizeOf53 Y (by exact tQ _) (by exact Au rfl)) ?_;refine Ze (Al zeroValue53 #[_,_,_,_,_,_,_,_,_,_,_,_,_,_,_]) ?_;rintro _ _ ⟨b5,rfl,rfl⟩;refine Xe (Xw sizeOf53 #[I4 z1.a.q.kd,I4 z1.a.q.tb,I4 z1.a.q.cl,I4 z1.a.q.lo,I4 z1.a.q.hi,I4 z1.a.q.bq,I4 z1.a.q.ot,.slice z1.rp z1.a.res.rows.length z1.rc,I4 z1.a.res.val,.bool z1.a.res.fnd,I4 z1.a.since,I4 z1.a.until_,I4 z1.a.base,.slice z1.gp z1.a.ranges.length z1.gc,.slice z1.cp z1.a.recs.length z1.cc]) ?_;refine Z0<|Zx<|Zq<|Zg<|Zo Wh (AX (cs:=#[_,_,_]) isAgg51 sizeOf51 Y (by exact tQ _) (by exact Au rfl)) ?_;refine Zh 7 underlying53 rfl rfl sizeOf51 Y<|Xe (BN sizeOf51 Y Y (by(simp [Value.oneCell'];done)) Wu (by exact (rfl:_=(#[I4 z1.a.q.kd,I4 z1.a.q.tb,I4 z1.a.q.cl,I4 z1.a.q.lo,I4 z1.a.q.hi,I4 z1.a.q.bq,I4 z1.a.q.ot,.slice pr rs3.length cr,I4 rv,.bool rf,I4 z1.a.since,I4 z1.a.until_,I4 z1.a.base,.slice z1.gp z1.a.ranges.length z1.gc,.slice z1.cp z1.a.recs.length z1.cc]:Array Value))) (by first|rfl|(simp;done)) (by(simp;done)) (by exact BQ _)) ?_;refine Z0<|Zx<|Zq<|Zg<|Zh 0 underlying51 rfl rfl sizeOf45 Y<|Zl isAgg45 Y ?_;refine Zh 0 underlying51 rfl rfl sizeOf45 Y<|Zl isAgg45 Y ?_;refine Zv (AV underlying45 Y)<|Zv (Lb (n:=10) Y Y) ?_;refine BM (Bc underlying45 sizeOf113 Y Y (by omega)) ?_
 refine Zh 7 underlying53 rfl rfl sizeOf51 Y<|Zv (BH (off:=0) underlying51 rfl rfl sizeOf45 Y)<|Xe (Zs sizeOf45 Y Y rfl (hc:=by exact (show(#[I4 z1.a.q.kd,I4 z1.a.q.tb,I4 z1.a.q.cl,I4 z1.a.q.lo,I4 z1.a.q.hi,I4 z1.a.q.bq,I4 z1.a.q.ot,.slice pr (min rs3.length 10) cr,I4 rv,.bool rf,I4 z1.a.since,I4 z1.a.until_,I4 z1.a.base,.slice z1.gp z1.a.ranges.length z1.gc,.slice z1.cp z1.a.recs.length z1.cc]:Array Value)=#[I4 z1.a.q.kd,I4 z1.a.q.tb,I4 z1.a.q.cl,I4 z1.a.q.lo,I4 z1.a.q.hi,I4 z1.a.q.bq,I4 z1.a.q.ot,.slice pr ys.length cr,I4 rv,.bool rf,I4 z1.a.since,I4 z1.a.until_,I4 z1.a.base,.slice z1.gp z1.a.ranges.length z1.gc,.slice z1.cp z1.a.recs.length z1.cc] by rw [hyl])) (hi:=by(simp;done))) ?_;refine Z0<|Zn [2,3,9,12,13,15,17,18] ?_;refine Zx<|Zq<|Zg<|Zo Wh (AX (cs:=#[I4 z1.a.q.kd,I4 z1.a.q.tb,I4 z1.a.q.cl,I4 z1.a.q.lo,I4 z1.a.q.hi,I4 z1.a.q.bq,I4 z1.a.q.ot,.slice z1.rp z1.a.res.rows.length z1.rc,I4 z1.a.res.val,.bool z1.a.res.fnd,I4 z1.a.since,I4 z1.a.until_,I4 z1.a.base,.slice z1.gp z1.a.ranges.length z1.gc,.slice z1.cp z1.a.recs.length z1.cc]) isAgg53 sizeOf53 Y (by exact tQ _) (by exact Au rfl)) ?_;refine Ze (Al zeroValue53 #[_,_,_,_,_,_,_,_,_,_,_,_,_,_,_]) ?_;rintro _ _ ⟨b6,rfl,rfl⟩;refine Xe (Xw sizeOf53 #[I4 z1.a.q.kd,I4 z1.a.q.tb,I4 z1.a.q.cl,I4 z1.a.q.lo,I4 z1.a.q.hi,I4 z1.a.q.bq,I4 z1.a.q.ot,.slice z1.rp z1.a.res.rows.length z1.rc,I4 z1.a.res.val,.bool z1.a.res.fnd,I4 z1.a.since,I4 z1.a.until_,I4 z1.a.base,.slice z1.gp z1.a.ranges.length z1.gc,.slice z1.cp z1.a.recs.length z1.cc]) ?_;refine Z0<|Zx<|Zq<|Zg<|Zm Y<|Zh 10 underlying53 rfl rfl sizeOf3 Y<|Xe (Zs sizeOf3 Y Y rfl (hc:=by exact (rfl:_=(#[I4 z1.a.q.kd,I4 z1.a.q.tb,I4 z1.a.q.cl,I4 z1.a.q.lo,I4 z1.a.q.hi,I4 z1.a.q.bq,I4 z1.a.q.ot,.slice z1.rp z1.a.res.rows.length z1.rc,I4 z1.a.res.val,.bool z1.a.res.fnd,I4 w1,I4 z1.a.until_,I4 z1.a.base,.slice z1.gp z1.a.ranges.length z1.gc,.slice z1.cp z1.a.recs.length z1.cc]:Array Value))) (hi:=by(simp;done))) ?_
 refine Z0<|Zx<|Zq<|Zg<|Zo Wh (AX (cs:=#[I4 z1.a.q.kd,I4 z1.a.q.tb,I4 z1.a.q.cl,I4 z1.a.q.lo,I4 z1.a.q.hi,I4 z1.a.q.bq,I4 z1.a.q.ot,.slice z1.rp z1.a.res.rows.length z1.rc,I4 z1.a.res.val,.bool z1.a.res.fnd,I4 z1.a.since,I4 z1.a.until_,I4 z1.a.base,.slice z1.gp z1.a.ranges.length z1.gc,.slice z1.cp z1.a.recs.length z1.cc]) isAgg53 sizeOf53 Y (by exact tQ _) (by exact Au rfl)) ?_;refine Ze (Al zeroValue53 #[_,_,_,_,_,_,_,_,_,_,_,_,_,_,_]) ?_;rintro _ _ ⟨b7,rfl,rfl⟩;refine Xe (Xw sizeOf53 #[I4 z1.a.q.kd,I4 z1.a.q.tb,I4 z1.a.q.cl,I4 z1.a.q.lo,I4 z1.a.q.hi,I4 z1.a.q.bq,I4 z1.a.q.ot,.slice z1.rp z1.a.res.rows.length z1.rc,I4 z1.a.res.val,.bool z1.a.res.fnd,I4 z1.a.since,I4 z1.a.until_,I4 z1.a.base,.slice z1.gp z1.a.ranges.length z1.gc,.slice z1.cp z1.a.recs.length z1.cc]) ?_;refine Z0<|Zx<|Zq<|Zg<|Zm Y<|Zh 11 underlying53 rfl rfl sizeOf3 Y<|Xe (Zs sizeOf3 Y Y rfl (hc:=by exact (rfl:_=(#[I4 z1.a.q.kd,I4 z1.a.q.tb,I4 z1.a.q.cl,I4 z1.a.q.lo,I4 z1.a.q.hi,I4 z1.a.q.bq,I4 z1.a.q.ot,.slice z1.rp z1.a.res.rows.length z1.rc,I4 z1.a.res.val,.bool z1.a.res.fnd,I4 z1.a.since,I4 w2,I4 z1.a.base,.slice z1.gp z1.a.ranges.length z1.gc,.slice z1.cp z1.a.recs.length z1.cc]:Array Value))) (hi:=by(simp;done))) ?_;refine Z0<|Zx<|Zq<|BI (n:=17) (0::0::3::7::0::0::48::112::0::511::0::1024::0::4096::16383::32767::65535::[]) 16896 (by kernel_rfl) (by kernel_rfl) rfl ?_;refine Zi 1 0 rfl (AJ Y)<|Zi 3 1 rfl (AJ Y) ?_;refine Zi 7 2 rfl (AU underlying60 sizeOf67 Y Y (by omega)) ?_;refine Cj (D':=15) 3 rfl rfl rfl Wh (AX (cs:=#[I4 h1.p,.string (str h1.ch),.string (str h1.st)]) isAgg67 sizeOf67 Y (hwa).1 (hwa).2) ?_;refine Zi 31 4 rfl (AJ Y)<|Zi 63 5 rfl (AJ Y) ?_;refine Zi 127 6 rfl (AU underlying60 sizeOf67 Y Y (by omega)) ?_;refine Cj (D':=255) 7 rfl rfl rfl Wh (AX (cs:=#[I4 h2.p,.string (str h2.ch),.string (str h2.st)]) isAgg67 sizeOf67 Y (hwb).1 (hwb).2) ?_
 refine Cj (D':=511) 8 rfl rfl rfl Wh (AX (cs:=#[_,_,_,_,_,_,_,_,_,_,_,_,_,_,_]) isAgg53 sizeOf53 Y (by exact tQ _) (by first|exact rfl|exact Au rfl)) ?_;refine Zi 1535 10 rfl (AZ (off:=7) underlying53 rfl rfl sizeOf51 Y)<|Cj (D':=3583) 11 rfl rfl rfl Wh (AX (cs:=#[_,_,_]) isAgg51 sizeOf51 Y (by(simp;done)) (by first|exact rfl|exact Au rfl)) ?_;refine Zi 7679 12 rfl (AZ (off:=7) underlying53 rfl rfl sizeOf51 Y)<|Cj (D':=15871) 13 rfl rfl rfl Wh (AX (cs:=#[_,_,_]) isAgg51 sizeOf51 Y (by(simp;done)) (by first|exact rfl|exact Au rfl)) ?_;refine Yz 9 511 16383 [13,11,8,7,3] [true,true,false,false,false] [(13,(_,_)),(11,(_,_))] rfl Y rfl rfl rfl rfl (Zu [_,_,_] Y call26 Y rfl (nS h1 h2 (z:=(⟨⟨z1.a.q,(⟨ys,rv,rf⟩:CG),z1.a.since,z1.a.until_,z1.a.base,z1.a.ranges,z1.a.recs⟩,pr,cr,z1.gp,z1.gc,z1.cp,z1.cc⟩:GG)) (show GG.ok (E1++(s++M)) _ from⟨hyU.mono (fun c hc=>tZ _ (tZ _ hc)),(hzo1.mono (fun c hc=>by rw [←tO];exact u6 _ hc)).2⟩) f1 f2 f3 f4 f5 Tg zg)) ?_;rintro _ _ ⟨rfl,rfl⟩;refine ⟨Zk (Zk (Ad)),?_⟩;rw [(decide_eq_decide.2 c1:_=decide (z1.a.res=(⟨ys,rv,rf⟩:CG)))];refine Yw 14 32767 rfl (Zu [_,_] Y call31 Y rfl (nO (y:=(⟨ys,rv,rf⟩:CG)) hzo1.1 hyU)) ?_;rintro _ _ ⟨rfl,rfl⟩;refine Zi 65535 15 rfl (MP underlying4 Y Y)<|Zi 131071 16 rfl (Ay Y)<|Am ?_;refine Zn [2,3,9,12,13,15,17,19,20,21] ?_;refine Zx<|Zq<|BI (n:=16) (0::0::3::7::0::0::48::112::0::511::0::0::2048::7168::16383::32767::[]) 512 (by kernel_rfl) (by kernel_rfl) rfl ?_;refine Zi 1 0 rfl (AJ Y)<|Zi 3 1 rfl (AJ Y) ?_;refine Zi 7 2 rfl (AU underlying60 sizeOf67 Y Y (by omega)) ?_;refine Cj (D':=15) 3 rfl rfl rfl Wh (AX (cs:=#[I4 h1.p,.string (str h1.ch),.string (str h1.st)]) isAgg67 sizeOf67 Y (hwa).1 (hwa).2) ?_;refine Zi 31 4 rfl (AJ Y)<|Zi 63 5 rfl (AJ Y) ?_;refine Zi 127 6 rfl (AU underlying60 sizeOf67 Y Y (by omega)) ?_;refine Cj (D':=255) 7 rfl rfl rfl Wh (AX (cs:=#[I4 h2.p,.string (str h2.ch),.string (str h2.st)]) isAgg67 sizeOf67 Y (hwb).1 (hwb).2) ?_
 refine Cj (D':=511) 8 rfl rfl rfl Wh (AX (cs:=#[_,_,_,_,_,_,_,_,_,_,_,_,_,_,_]) isAgg53 sizeOf53 Y (by exact tQ _) (by first|exact rfl|exact Au rfl)) ?_;refine Zi 1535 10 rfl (AJ Y)<|Zi 3583 11 rfl (AZ (off:=10) underlying53 rfl rfl sizeOf3 Y)<|Zj 7679 12 rfl isAgg3 Y (hv:=by first|exact rfl|exact Au rfl) ?_;refine Zi 15871 13 rfl (CF Y Y)<|Zz (l:=[9]) ?_;refine Zy 511 16383 [12,8,7,3] [true,false,false,false] [(12,(_,_))] rfl Y rfl rfl rfl rfl (Zu [_,_,_] Y call26 Y rfl (Ju h1 h2 (z:=(⟨⟨z1.a.q,z1.a.res,w1,z1.a.until_,z1.a.base,z1.a.ranges,z1.a.recs⟩,z1.rp,z1.rc,z1.gp,z1.gc,z1.cp,z1.cc⟩:GG)) (E:=E1) (M:=s) hzo1 f1 f2 f3 f4 f5 Tg zg)) ?hk_4 (fun _ _ h=>h.elim) ?hl_4
 case hk_4=>
  rintro _ _ ⟨rfl,rfl⟩;refine ⟨Zk (Ad),?_⟩;rw [(decide_eq_decide.2 c2:_=decide (w1=z1.a.since))];refine Zi 32767 14 rfl (MP underlying4 Y Y)<|Zi 65535 15 rfl (Ay Y)<|Am ?_;refine Zn [3,9,12,13,17,20,21,22] ?_;refine Zx<|Zq<|Zg<|Zm Y<|Zm Y<|Zv (AV underlying60 Y)<|Xr [_,_] Y call32 Y rfl (Xl w2 (l.length+1) (by omega) (by omega) hw21 hw22) ?_;obtain ⟨k9,hk9⟩:∃d,d=C9 w2 (l.length+1):=⟨_,rfl⟩;rw [←hk9];have hl9:=Ez w2 (l.length+1) (by omega)
  rw [←hk9]at hl9;have hwk:=hw k9 (by omega)
  obtain ⟨h4,hh4⟩:∃h,h=EG l k9:=⟨_,rfl⟩;rw [←hh4]at hwk;refine Za Y<|Z0<|Zx<|Zq<|BI (n:=17) (0::0::3::7::0::0::48::112::0::511::1023::2047::4095::4095::16383::32767::65535::[]) 512 (by kernel_rfl) (by kernel_rfl) rfl ?_;refine Zi 1 0 rfl (AJ Y)<|Zi 3 1 rfl (AJ Y) ?_;refine Zi 7 2 rfl (AU underlying60 sizeOf67 Y Y (by omega)) ?_;refine Cj (D':=15) 3 rfl rfl rfl Wh (AX (cs:=#[I4 h1.p,.string (str h1.ch),.string (str h1.st)]) isAgg67 sizeOf67 Y (hwa).1 (hwa).2) ?_;refine Zi 31 4 rfl (AJ Y)<|Zi 63 5 rfl (AJ Y) ?_;refine Zi 127 6 rfl (AU underlying60 sizeOf67 Y Y (by omega)) ?_;refine Cj (D':=255) 7 rfl rfl rfl Wh (AX (cs:=#[I4 h4.p,.string (str h4.ch),.string (str h4.st)]) isAgg67 sizeOf67 Y (hwk).1 (hwk).2) ?_;refine Cj (D':=511) 8 rfl rfl rfl Wh (AX (cs:=#[_,_,_,_,_,_,_,_,_,_,_,_,_,_,_]) isAgg53 sizeOf53 Y (by exact tQ _) (by first|exact rfl|exact Au rfl)) ?_;refine Yw 9 1023 rfl (Zu [_,_,_] Y call26 Y rfl (Ju h1 h4 (z:=(⟨⟨z1.a.q,z1.a.res,z1.a.since,w2,z1.a.base,z1.a.ranges,z1.a.recs⟩,z1.rp,z1.rc,z1.gp,z1.gc,z1.cp,z1.cc⟩:GG)) (E:=E1) (M:=s) hzo1 f1 f2 f3 f4 f5 Tg zg)) ?_;rintro _ _ ⟨rfl,rfl⟩;refine Zi 2047 10 rfl (CB Y)<|Zi 4095 11 rfl (AJ Y) ?_;refine CP (t:=111) Y (fun k2=>?_) (fun k2=>?_)
  ·
   first|rw [decide_eq_true k2]|rw [k2]|skip
   refine Yk 8191 12 rfl<|Yk 16383 13 rfl<|Yk 32767 14 rfl<|Zi 65535 15 rfl (AL Y Y)<|Zi 131071 16 rfl (Ay Y)<|Am ?_;refine Zn [9,21,22,24] ?_;refine Zx<|Zq<|Zg<|Zm Y<|Zm Y ?_;refine Ai (t:=117) Y rfl (fun k4=>?_) (fun k4=>?_)
   ·
    refine Zf Y Y<|Zv (AL Y Y)<|Zm Y ?_;refine Ai (t:=120) Y rfl (fun k4=>?_) (fun k4=>?_)
    ·
     refine Zf Y Y<|Zv (AL Y Y)<|Zm Y ?_;refine Ai (t:=123) Y rfl (fun k4=>?_) (fun k4=>?_)
     ·
      refine Zf Y Y<|Zv (AL Y Y)<|Za Y<|Z0<|Zx<|A9 ?_;refine AB rfl results5 Y (by exact ⟨rfl,rfl⟩)
     simp at k4
    simp at k4
   simp at k4
  first|rw [decide_eq_false k2]|rw [k2]|skip
  have k3:=c3 h4 (by simpa using k2);refine Ag (D':=8191) 12 Y rfl rfl rfl (AJ Y) ?_;refine Ag (D':=16383) 13 Y rfl rfl rfl (AJ Y) ?_;refine Ag (D':=32767) 14 Y rfl rfl rfl (CF Y Y) ?_;refine Zi 65535 15 rfl (AA Y Y)<|Zi 131071 16 rfl (Ay Y)<|Am ?_;refine Zn [9,21,22,24] ?_;refine Zx<|Zq<|Zg<|Zm Y<|Zm Y ?_;refine Ai (t:=117) Y rfl (fun k4=>?_) (fun k4=>?_)
  ·
   refine Zf Y Y<|Zv (AL Y Y)<|Zm Y ?_;refine Ai (t:=120) Y rfl (fun k4=>?_) (fun k4=>?_)
   ·
    refine Zf Y Y<|Zv (AL Y Y)<|Zm Y ?_;refine Ai (t:=123) Y rfl (fun k4=>?_) (fun k4=>?_)
    ·
     refine Zf Y Y<|Zv (AL Y Y)<|Za Y<|Z0<|Zx<|A9 ?_;refine AB rfl results5 Y (by(refine ⟨?_,rfl⟩;rw [decide_eq_true k3];done))
    simp at k4
   simp at k4
  simp at k4
 exact Aw
end Go.Proofs.YtkdgffcfmgmemaaGreatDoor
namespace Go.Proofs.YtkdgffcfmgmemaaGreatDoor
open Go.Proofs.Tryz
open Go Go.RowKit Gw
set_option maxRecDepth 100000
attribute [local irreducible] Gw.At Gw.Nx Gw.Ops
open Go.ChangeShapes Go.WideShapes Go.Deep
theorem dM{l:List Value}(h:l.length=5):∃a b c d e,l=[a,b,c,d,e]:=by
 match l,h with
 |[a,b,c,d,e],_=>exact ⟨a,b,c,d,e,rfl⟩
theorem dC{H:Type}{enc:TypeId×Value→H}{W:World}{base:Nat}{held:Bool}{fuel:Nat}{l:List Value}{x:DataW H×List MemPlace}(h:DataW.trod enc Tryz.prog W base (fun _=>true) held fuel 23 l=some x)(hl:l.length=5):
 ∃a b c d e:Int,l=[I4 a,I4 b,I4 c,I4 d,I4 e]∧(-9223372036854775808≤a∧a≤9223372036854775807)∧(-9223372036854775808≤b∧b≤9223372036854775807)∧(-9223372036854775808≤c∧c≤9223372036854775807)∧(-9223372036854775808≤d∧d≤9223372036854775807)∧(-9223372036854775808≤e∧e≤9223372036854775807):=by
 obtain ⟨ys,m,_,_,_,hyl,hf⟩:=DataW.trod_array underlying23 h;have hj:∀j,j<5→∃n:Int,l[j]?=some (I4 n)∧-9223372036854775808≤n∧n≤9223372036854775807:=fun j hj=>by
  have f:=hf j hj;rw [pu,wP,tF (by omega)]at f;have hj2:j<l.length:=by omega
  have e:(l.drop j).take 1=[l[j]]:=by rw [vB hj2];rfl
  rw [e]at f;obtain ⟨k,hk,_,hkw⟩:=DataW.trod_int underlying3 f;injection hk with hk _
  exact ⟨k,by rw [tF hj2,hk],bounds_i64 hkw⟩
 obtain ⟨v0,v1,v2,v3,v4,rfl⟩:=dM hl;obtain ⟨a,ha,ha2⟩:=hj 0 (by decide);obtain ⟨b,hb,hb2⟩:=hj 1 (by decide);obtain ⟨c,hc,hc2⟩:=hj 2 (by decide);obtain ⟨d,hd,hd2⟩:=hj 3 (by decide);obtain ⟨e,he,he2⟩:=hj 4 (by decide);simp at ha hb hc hd he;subst ha hb hc hd he;exact ⟨a,b,c,d,e,rfl,ha2,hb2,hc2,hd2,he2⟩
theorem Qf{P:Program}{w:World}{r:Reach}{base:Nat}{t:TypeId}{fs:Array Field}{v:Value}(hu:P.underlying t=some (.struct fs))(h:Value.okWide P w r base t v):∃cs,v= .agg cs∧cs.size=P.cellsOf t:=by
 unfold Value.okWide at h;rw [hu]at h;obtain ⟨cs,rfl,h1,_⟩:=h;exact ⟨cs,rfl,h1⟩
theorem q8:Tryz.prog.cellsOf 26=9:=by kernel_rfl
open Go.ChangeShapes Go.WideShapes Go.Deep
section
variable{H:Type}{enc:TypeId×Value→H}{W:World}{base:Nat}{held:Bool}
theorem Y4{Tg:TypeId}{zg:Nat×Nat}(h4:W.heap[1]?=some (.cells (Cs.map Bj).toArray Tg zg)){fuel:Nat}{cs:List Value}{x:DataW H×List MemPlace}(h:DataW.trod enc Tryz.prog W base (fun _=>true) held fuel 26 cs=some x)(hl:cs.length=9):
 ∃(p:Option Addr) (cap:Nat) (ys:List (List Int)) (n0 n1 n2 n3 n4 n5 n6:Int) (tw:Value),cs=[.slice p ys.length cap,I4 n0,I4 n1,I4 n2,I4 n3,I4 n4,I4 n5,I4 n6,tw]∧Ni (Ki W [1]) (.slice p ys.length cap) ys∧(-9223372036854775808≤n0∧n0≤9223372036854775807)∧(-9223372036854775808≤n1∧n1≤9223372036854775807)∧(-9223372036854775808≤n2∧n2≤9223372036854775807)∧(-9223372036854775808≤n3∧n3≤9223372036854775807)∧(-9223372036854775808≤n4∧n4≤9223372036854775807)∧(-9223372036854775808≤n5∧n5≤9223372036854775807)∧(-9223372036854775808≤n6∧n6≤9223372036854775807):=by
 obtain ⟨xs,m,_,hx,hcl,hxl,hf⟩:=DataW.trod_struct underlying26 h
 match cs,hl with
 |[a0,a1,a2,a3,a4,a5,a6,a7,a8],_=>
  have hy:∀i,i<5→∃y,xs[i]?=some y:=fun i hi=>⟨_,tF (by rw [hxl];exact hi)⟩;obtain ⟨y0,hy0⟩:=hy 0 (by decide);obtain ⟨y1,hy1⟩:=hy 1 (by decide);obtain ⟨y2,hy2⟩:=hy 2 (by decide);obtain ⟨y3,hy3⟩:=hy 3 (by decide);obtain ⟨u,g,hu,hm⟩:=Vw h4 ((hf 0 _ rfl).trans hy0);obtain ⟨n0,n1,n2,n3,n4,e1,b0,b1,b2,b3,b4⟩:=dC ((hf 1 _ rfl).trans hy1) rfl;obtain ⟨n5,e5,_,b5⟩:=DataW.trod_int underlying3 ((hf 2 _ rfl).trans hy2);obtain ⟨n6,e6,_,b6⟩:=DataW.trod_int underlying3 ((hf 3 _ rfl).trans hy3);obtain ⟨p,cap,e,hz⟩:=id hm;subst e;change [a0]=[_]at hu;change [a1,a2,a3,a4,a5]=[_,_,_,_,_]at e1;change [a6]=[_]at e5;change [a7]=[_]at e6;injection hu with hu
  injection e1 with e1 e2
  injection e2 with e2 e3
  injection e3 with e3 e4
  injection e4 with e4 e7
  injection e7 with e7
  injection e5 with e5
  injection e6 with e6
  subst hu e1 e2 e3 e4 e7 e5 e6;exact ⟨p,cap,g,n0,n1,n2,n3,n4,n5,n6,a8,rfl,hm,b0,b1,b2,b3,b4,bounds_i64 b5,bounds_i64 b6⟩
end
theorem Y9{l:List Value}(h:l.length=3):∃a b c,l=[a,b,c]:=by
 match l,h with
 |[a,b,c],_=>exact ⟨a,b,c,rfl⟩
theorem dD{H:Type}{enc:TypeId×Value→H}{W:World}{base:Nat}{held:Bool}{fuel:Nat}{l:List Value}{x:DataW H×List MemPlace}(h:DataW.trod enc Tryz.prog W base (fun _=>true) held fuel 75 l=some x)(hl:l.length=3):
 ∃a b c:Int,l=[I4 a,I4 b,I4 c]∧(-9223372036854775808≤a∧a≤9223372036854775807)∧(-9223372036854775808≤b∧b≤9223372036854775807)∧(-9223372036854775808≤c∧c≤9223372036854775807):=by
 obtain ⟨ys,m,_,_,_,hyl,hf⟩:=DataW.trod_array underlying75 h;have hj:∀j,j<3→∃n:Int,l[j]?=some (I4 n)∧-9223372036854775808≤n∧n≤9223372036854775807:=fun j hj=>by
  have f:=hf j hj;rw [pu,wP,tF (by omega)]at f;have hj2:j<l.length:=by omega
  have e:(l.drop j).take 1=[l[j]]:=by rw [vB hj2];rfl
  rw [e]at f;obtain ⟨k,hk,_,hkw⟩:=DataW.trod_int underlying3 f;injection hk with hk _
  exact ⟨k,by rw [tF hj2,hk],bounds_i64 hkw⟩
 obtain ⟨v0,v1,v2,rfl⟩:=Y9 hl;obtain ⟨a,ha,ha2⟩:=hj 0 (by decide);obtain ⟨b,hb,hb2⟩:=hj 1 (by decide);obtain ⟨c,hc,hc2⟩:=hj 2 (by decide);simp at ha hb hc;subst ha hb hc;exact ⟨a,b,c,rfl,ha2,hb2,hc2⟩
end Go.Proofs.YtkdgffcfmgmemaaGreatDoor
namespace Go.Proofs.YtkdgffcfmgmemaaGreatDoor
open Go.Proofs.Tryz
open Go Go.RowKit Gw
set_option maxRecDepth 100000
attribute [local irreducible] Gw.At Gw.Nx Gw.Ops
theorem rT:Tryz.prog.cellsOf 51=3:=by kernel_rfl
open Go.ChangeShapes Go.WideShapes Go.Deep
section
variable{H:Type}{enc:TypeId×Value→H}{W:World}{base:Nat}{held:Bool}
theorem Vx{P:Program}{t e:TypeId}{s fuel:Nat}{cs:List Value}{x:DataW H×List MemPlace}(ht:P.underlying t=some (.slice e))(hc:P.cellsOf e=s)(hs:0<s)(h:DataW.trod enc P W base (fun _=>true) held fuel t cs=some x):
 ∃p len cap,cs=[.slice p len cap]∧(len≤maxLen∧len≤cap)∧∀i,i<len→∃cs' n z,cs'.length=s∧DataW.trod enc P W base (fun _=>true) held n e cs'=some z∧(∀k∈z.1.weights P e,k∈x.1.weights P t)∧
  ∃g o cur T zz,p=some ⟨g,o,none⟩∧W.heap[g]?=some (.cells cur T zz)∧∀j,j<s→cur[o+i*s+j]?=cs'[j]?:=by
 rcases DataW.trod_slice ht h with⟨rfl,_⟩|⟨a,len,cap,elems,rest,n,rfl,rfl,rfl,_,hl,hm,hel,hat,_⟩
 · exact ⟨none,0,0,rfl,⟨tX _,tQ _⟩,fun i hi=>by omega⟩
 · refine ⟨some a,len,cap,rfl,⟨by omega,hl⟩,fun i hi=>?_⟩
   have cell:∀i,i<len→∃cs' z,elems[i]?=some z∧W.cells? base (a.add (i*s)) s=some cs'∧DataW.trod enc P W base (fun _=>true) held n e cs'=some z:=fun i hi=>by
    obtain ⟨z,hz⟩:∃z,elems[i]?=some z:=⟨_,tF (by omega)⟩;have h9:=hat i hi
    rw [hc,hz]at h9;obtain ⟨cs',h1,h2⟩:=Option.bind_eq_some_iff.1 h9;exact ⟨cs',z,hz,h1,h2⟩
   have hsp2:a=⟨a.block,a.off,none⟩:=by
    obtain ⟨cs0,_,_,g1,_⟩:=cell 0 (by omega);obtain ⟨_,glen,gg⟩:=World.cells?_some g1;have g9:=gg 0 hs
    rw [tF (l:=cs0) (i:=0) (by omega),yA,nZ,nZ]at g9;exact XC g9
   obtain ⟨cs',z,hz,h1,h2⟩:=cell i hi;obtain ⟨_,hlen,hg⟩:=World.cells?_some h1;refine ⟨cs',n,z,hlen,h2,fun k hk=>?_,?_⟩
   · simp only [DataW.weights,ht]
     refine ug _ (u6 _ ?_);have hmem:∀(l:List (DataW H×List MemPlace)),z∈l→k∈DataW.weightsAll P e (l.map (·.1)):=by
      intro l;induction l with
      |nil=>intro h;cases h
      |cons y l ih=>
       intro h;simp only [uo,DataW.weightsAll];rcases uI.1 h with rfl|h
       · exact u6 _ hk
       · exact tZ _ (ih h)
     exact hmem elems (tV hz)
   · have h9:=hg 0 hs
     rw [tF (l:=cs') (i:=0) (by omega),hsp2,CJ,CJ]at h9;obtain ⟨cur,T,zz,hb,_⟩:=Lj h9;refine ⟨a.block,a.off,cur,T,zz,by rw [←hsp2],hb,fun j hj=>?_⟩;have h8:=hg j hj
     rw [tF (l:=cs') (i:=j) (by omega)]at h8⊢;rw [hsp2,CJ,CJ]at h8;obtain ⟨cur2,T2,zz2,hb2,hc2⟩:=Lj h8;rw [hb]at hb2;injection hb2 with e
     injection e with e1 _ _
     rw [e1];exact hc2
theorem rR:Tryz.prog.cellsOf 113=5:=by kernel_rfl
theorem fE{cur:Array Value}{o:Nat}{l:List Value}(h:∀j,j<l.length→cur[o+j]?=l[j]?)(h0:0<l.length):o+l.length≤cur.size∧cur.extract o (o+l.length)=l.toArray:=by
 have hs:o+l.length≤cur.size:=by
  have h9:=h (l.length -1) (by omega);rw [tF (by omega)]at h9;have:=(u7.1 h9).1
  omega
 refine ⟨hs,vS.1 (vg fun i=>?_)⟩;rw [uO,wW];by_cases hi:i<l.length
 · rw [if_pos (by omega),h i hi]
 · rw [if_neg (by omega)]
   exact (uq (by show l.length≤i;omega)).symm
theorem Y2{Tg:TypeId}{zg:Nat×Nat}(h4:W.heap[1]?=some (.cells (Cs.map Bj).toArray Tg zg)){fuel:Nat}{cs:List Value}{x:DataW H×List MemPlace}(h:DataW.trod enc Tryz.prog W base (fun _=>true) held fuel 45 cs=some x):
 ∃q c rs,cs=[.slice q rs.length c]∧DV (Ki W [1]) (.slice q rs.length c) rs:=by
 obtain ⟨p,len,cap,rfl,hl,hel⟩:=Vx underlying45 rR (by decide) h;obtain ⟨rs,h1,h2⟩:=JL len (fun i (r:AP)=>∃g o cur T zz,p=some ⟨g,o,none⟩∧(g,Obj.cells cur T zz)∈Ki W [1]∧o+i*5+5≤cur.size∧cur.extract (o+i*5) (o+i*5+5)=#[I4 r.t,I4 r.k,I4 r.v.a,I4 r.v.b,I4 r.v.c]) (fun i hi=>by
  obtain ⟨cs',n,z,hlen,ht,hw,g,o,cur,T,zz,hp,hb,hc⟩:=hel i hi;obtain ⟨xs,m,_,_,hcl,hxl,hf⟩:=DataW.trod_struct underlying113 ht;have f0:=hf 0 _ rfl
  have f1:=hf 1 _ rfl;have f2:=hf 2 _ rfl
  match cs',hlen with
  |[a,b,c,d,e],_=>
   obtain ⟨y0,hy0⟩:∃y,xs[0]?=some y:=⟨_,tF (by rw [hxl];decide)⟩;obtain ⟨y1,hy1⟩:∃y,xs[1]?=some y:=⟨_,tF (by rw [hxl];decide)⟩;obtain ⟨y2,hy2⟩:∃y,xs[2]?=some y:=⟨_,tF (by rw [hxl];decide)⟩;rw [hy0]at f0;rw [hy1]at f1;rw [hy2]at f2;obtain ⟨k0,e0,_,_⟩:=DataW.trod_int underlying3 f0;obtain ⟨k1,e1,_,_⟩:=DataW.trod_int underlying3 f1;obtain ⟨v0,v1,v2,e2,_⟩:=dD f2 rfl;change [a]=[_]at e0;change [b]=[_]at e1;change [c,d,e]=[_,_,_]at e2;injection e0 with e0
   injection e1 with e1
   injection e2 with e2 e3
   injection e3 with e3 e4
   injection e4 with e4
   subst e0 e1 e2 e3 e4;have h0:=hc 0 (by decide)
   rw [wU]at h0;obtain ⟨q1,q2⟩:=fE (cur:=cur) (o:=o+i*5) (l:=[I4 k0,I4 k1,I4 v0,I4 v1,I4 v2]) (fun j hj=>hc j hj) (Nat.succ_pos _);exact ⟨⟨k0,k1,⟨v0,v1,v2⟩⟩,g,o,cur,T,zz,hp,NN hb (WU h4 hb h0 rfl),q1,q2⟩)
 subst h1;exact ⟨p,cap,rs,rfl,p,cap,rfl,hl,h2⟩
theorem dB{Tg:TypeId}{zg:Nat×Nat}(h4:W.heap[1]?=some (.cells (Cs.map Bj).toArray Tg zg)){fuel:Nat}{cs:List Value}{x:DataW H×List MemPlace}(h:DataW.trod enc Tryz.prog W base (fun _=>true) held fuel 51 cs=some x)(hl:cs.length=3):
 ∃(p:Option Addr) (cap:Nat) (rs:List AP) (k:Int) (t:Bool),cs=[.slice p rs.length cap,I4 k,.bool t]∧DV (Ki W [1]) (.slice p rs.length cap) rs:=by
 obtain ⟨xs,m,_,hx,hcl,hxl,hf⟩:=DataW.trod_struct underlying51 h
 match cs,hl with
 |[a0,a1,a2],_=>
  have hy:∀i,i<3→∃y,xs[i]?=some y:=fun i hi=>⟨_,tF (by rw [hxl];exact hi)⟩;obtain ⟨y0,hy0⟩:=hy 0 (by decide);obtain ⟨y1,hy1⟩:=hy 1 (by decide);obtain ⟨y2,hy2⟩:=hy 2 (by decide);obtain ⟨q,c,rs,e0,hR⟩:=Y2 h4 ((hf 0 _ rfl).trans hy0);obtain ⟨k,e1,_,_⟩:=DataW.trod_int underlying3 ((hf 1 _ rfl).trans hy1);obtain ⟨t,e2,_⟩:=DataW.trod_bool underlying4 ((hf 2 _ rfl).trans hy2);change [a0]=[_]at e0;change [a1]=[_]at e1;change [a2]=[_]at e2;injection e0 with e0
  injection e1 with e1
  injection e2 with e2
  subst e0 e1 e2;exact ⟨q,c,rs,k,t,rfl,hR⟩
end
theorem V9(p:Option Addr)(cap:Nat)(ys:List (List Int))(M:List AR)(hX:Ni M (.slice p ys.length cap) ys)(n0 n1 n2 n3 n4 n5 n6:Int)(hn0:-9223372036854775808≤n0∧n0≤9223372036854775807)(hn1:-9223372036854775808≤n1∧n1≤9223372036854775807)(hn2:-9223372036854775808≤n2∧n2≤9223372036854775807)(hn3:-9223372036854775808≤n3∧n3≤9223372036854775807)(hn4:-9223372036854775808≤n4∧n4≤9223372036854775807)(hn5:-9223372036854775808≤n5∧n5≤9223372036854775807)(hn6:-9223372036854775808≤n6∧n6≤9223372036854775807)(tw:Value)(pr:Option Addr)(cr:Nat)(rs3:List AP)(rv:Int)(rf:Bool)(h3:DV M (.slice pr rs3.length cr) rs3)(s:Int)(s1:-9223372036854775808≤s)(s2:s≤9223372036854775807)(w:Int)(w1:-9223372036854775808≤w)(w2:w≤9223372036854775807)(Tg:TypeId)(zg:Nat×Nat):Av Tryz.prog 5 #[.agg #[.slice p ys.length cap,I4 n0,I4 n1,I4 n2,I4 n3,I4 n4,I4 n5,I4 n6,tw],.agg #[.slice pr rs3.length cr,I4 rv,.bool rf],I4 s,I4 w] [[(1,.cells (Cs.map Bj).toArray Tg zg)],M] (.bool true):=gB hX n0 n1 n2 n3 n4 n5 n6 hn0.1 hn0.2 hn1.1 hn1.2 hn2.1 hn2.2 hn3.1 hn3.2 hn4.1 hn4.2 hn5.1 hn5.2 hn6.1 hn6.2 tw h3 rv rf s w w1 w2 Tg zg
end Go.Proofs.YtkdgffcfmgmemaaGreatDoor
namespace Go.Proofs.YtkdgffcfmgmemaaGreatDoor
open Go.Proofs.Tryz
open Go Go.RowKit Gw
set_option maxRecDepth 100000
attribute [local irreducible] Gw.At Gw.Nx Gw.Ops
open Go.ChangeShapes Go.WideShapes Go.ChangeAt
theorem UW{P:Program}{f:FuncId}{fn:Func}{s:ChangeSpec}{c:OpenClaim}(h0:c.wf (OpenSpec.ofChange s)=true)(h1:laidOutB P=true)(h2:mapsRowed P=true)(h3:fn.params.all (P.readableRec ·)=true)(h4:namedTie P c.named s.vars=true)(h5:(c.stops== [])=true)(h6:(P.stops== [])=true)(h7:(c.knobs== [])=true)(h8:(P.stopKnobs== [])=true)(h9:(c.inPlace==P.inPlace f)=true)(h10:(c.unfollowed==P.unfollowed f)=true)(h11:(c.recurses==P.recurses f)=true)(h12:(c.named==P.varsNamed f)=true)(h13:(c.maps==(fn.params.toList++s.plain.varTypes P).any (P.mapsRec ·))=true)(h14:(c.ifaces==(fn.params.toList++s.plain.varTypes P).any (P.ifacesRec ·))=true)(h15:(c.mapsOut==P.mapsAmong fn.resultTypes.toList)=true)(h16:(c.loops==(fn.params.toList++s.plain.varTypes P).any (P.loopsFrom ·))=true)(h17:(c.wideKeys==(fn.params.toList++s.plain.varTypes P++fn.resultTypes.toList).any (P.wideKeysFrom ·))=true)(h18:s.vars.all (P.varReadable ·)=true)(h19:fn.resultTypes.all (fun t=>P.readableRec t&&decide (t<P.types.size))=true)(h20:(c.ifacesOut==fn.resultTypes.toList.any (P.ifacesRec ·))=true)(h21:(c.loopsOut==fn.resultTypes.toList.any (P.loopsFrom ·))=true)(h22:(c.plainKeys==P.plainKeys)=true)(h23:c.shortTexts.isNone=true)(h24:P.stopsHeard=true)(h25:P.mayEnter=true)(h26:(c.lifted==P.liftsFinal)=true)(h27:(P.make==some c.make)=true)(h28:(c.kinds==(if c.domain.isEmpty then []else fn.params.toList.map fun t=>match P.underlying t with|some (.int k)=>some k|_=>none))=true)(h29:(c.pinned==c.pinnedBy)=true)(h30:(c.veiled==(fn.params.toList++s.plain.varTypes P++fn.resultTypes.toList).any (P.veiledRec ·))=true)(h31:c.veiledFits P fn.params.toList (fn.params.toList++s.plain.varTypes P++fn.resultTypes.toList)=true):joinedFacts P f fn s c=true:=by
 unfold joinedFacts;simp only [uE];exact ⟨⟨⟨⟨⟨⟨⟨⟨⟨⟨⟨⟨⟨⟨⟨⟨⟨⟨⟨⟨⟨⟨⟨⟨⟨⟨⟨⟨⟨⟨⟨h0,h1⟩,h2⟩,h3⟩,h4⟩,h5⟩,h6⟩,h7⟩,h8⟩,h9⟩,h10⟩,h11⟩,h12⟩,h13⟩,h14⟩,h15⟩,h16⟩,h17⟩,h18⟩,h19⟩,h20⟩,h21⟩,h22⟩,h23⟩,h24⟩,h25⟩,h26⟩,h27⟩,h28⟩,h29⟩,h30⟩,h31⟩
end Go.Proofs.YtkdgffcfmgmemaaGreatDoor
