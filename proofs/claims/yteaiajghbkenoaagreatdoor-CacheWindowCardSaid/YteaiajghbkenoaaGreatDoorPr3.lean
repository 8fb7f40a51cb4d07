/- predicate.kinds, Touches. -/
/- eval: folds, measures, joins. -/
/- eval: extreme, the steps of From, joined. -/
/- eval: From, Of, Same. -/
/- eval: Same, Of. -/
/- The patches of a result. -/
/- The patches of the kinds of queries (not joins). -/
import Derived.Test.YteaiajghbkenoaaGreatDoorEz
import Derived.Test.YteaiajghbkenoaaGreatDoorQe3
import Derived.Test.YteaiajghbkenoaaGreatDoorQe1
set_option linter.unusedVariables false
set_option linter.unusedSimpArgs false
namespace Go.Proofs.YteaiajghbkenoaaGreatDoor
open Go.Proofs.Tryz
open Go Go.RowKit Gw
set_option maxRecDepth 100000
attribute [local irreducible] Gw.At Gw.Nx Gw.Ops
def LZ(b5 b6:Nat):List (Int×Value):=[(1,.agg #[.func (.func 126) #[] #[],.func (.func 127) #[] #[]]),(2,.agg #[.func (.func 126) #[] #[],.func (.func 127) #[] #[]]),(3,.agg #[.func (.func 128) #[] #[],.func (.func 129) #[] #[]]),(4,.agg #[.func (.func 130) #[] #[],.func (.func 131) #[] #[]]),(5,.agg #[.func (.func 132) #[] #[],.func (.func 208) #[] #[I5 b5]]),(6,.agg #[.func (.func 135) #[] #[],.func (.func 208) #[] #[I5 b6]]),(7,.agg #[.func (.func 137) #[] #[],.func (.func 138) #[] #[]])]
variable{lm:List (Int×Value)}{k:Int}{v:Value}
theorem Xt{b5 b6:Nat}(h:∀p,p∈lm↔p∈LZ b5 b6)(hn:(lm.map (·.1)).Nodup)(hk:(k,v)∈LZ b5 b6):Dm k lm=some v:=Ck hn ((h _).2 hk)
def Gh(k:Int):Nat:=if k=1 then 126 else if k=2 then 126 else if k=3 then 128 else if k=4 then 130 else if k=5 then 132 else if k=6 then 135 else 137
theorem oH{b5 b6:Nat}(h:∀p,p∈lm↔p∈LZ b5 b6)(hn:(lm.map (·.1)).Nodup)(hk:1<=k/\k<=7):∃pf,Dm k lm=some (.agg #[.func (.func (Gh k)) #[] #[],pf]):=by
 obtain h9|h9|h9|h9|h9|h9|h9:k=1\/k=2\/k=3\/k=4\/k=5\/k=6\/k=7:=by omega
 all_goals subst h9
 all_goals exact ⟨_,Xt h hn (by simp [LZ,Gh];rfl)⟩
theorem OY(v:Value)(h1:v.oneCell'=true)(hc:v.cells=#[v]):BR Tryz.prog 133 #[v] [] (fun r H'=>∃b,r= .func (.func 208) #[] #[I5 b]/\H'=[[(b,.cells #[v] 73 (0,0))]]):=by
 refine Se func133 ntmps133 [0] ?_;intro u R;refine Zq<|Zg<|Ze (EX Y (cs:=#[v]) hc) ?_;rintro _ _ ⟨b,rfl,rfl⟩;refine Za Y<|Z0<|Zx<|Zq<|Zg<|Zv (Bb (vs:=[]) (us:=[_]) Y Y)<|Za Y<|Z0<|Zx<|AC<|AL V results133 Y (by exact ⟨b,V,V⟩)
theorem NJ:BR Tryz.prog 68 #[] [] (fun v H'=>∃b es ck lm b5 b6,v= .map (some b)/\Ce (fun k:Int=>I4 k) es ck lm/\(∀p,p∈lm↔p∈LZ b5 b6)/\H'=[[(b,.map es ck)],[(b5,.cells #[.func (.func 134) #[] #[]] 73 (0,0))],[(b6,.cells #[.func (.func 136) #[] #[]] 73 (0,0))]]):=by
 refine Se func68 ntmps68 [] ?_;intro u R;refine Zq<|Zg<|Za Y<|Z0<|Zx<|Zq<|Zg<|Ze (D6) ?_;rintro _ _ ⟨mb,rfl,rfl⟩;refine Zv (BL (vs:=[(0,.func (.func 126) #[] #[]),(1,.func (.func 127) #[] #[])]) (cs:=#[.func (.func 126) #[] #[],.func (.func 127) #[] #[]]) Y (AY (pl:=#[(0,1),(1,1)]) Ad1 Ac3 (fun _=>by kernel_rfl) Ao8))<|Ze (Dk Gz Ac4 (E5 _) (fun _ _=>trivial) (trivial) Y Y Y Wo) ?_;rintro _ _ ⟨rfl,es1,ck1,lm1,hm1,hp1,rfl⟩;refine Zv (BL (vs:=[(0,.func (.func 126) #[] #[]),(1,.func (.func 127) #[] #[])]) (cs:=#[.func (.func 126) #[] #[],.func (.func 127) #[] #[]]) Y (AY (pl:=#[(0,1),(1,1)]) Ad1 Ac3 (fun _=>by kernel_rfl) Ao8))<|Ze (Dk Gz Ac4 hm1 (fun _ _=>trivial) (trivial) Y Y Y Wo) ?_;rintro _ _ ⟨rfl,es2,ck2,lm2,hm2,hp2,rfl⟩;refine Zv (BL (vs:=[(0,.func (.func 128) #[] #[]),(1,.func (.func 129) #[] #[])]) (cs:=#[.func (.func 128) #[] #[],.func (.func 129) #[] #[]]) Y (AY (pl:=#[(0,1),(1,1)]) Ad1 Ac3 (fun _=>by kernel_rfl) Ao8))<|Ze (Dk Gz Ac4 hm2 (fun _ _=>trivial) (trivial) Y Y Y Wo) ?_;rintro _ _ ⟨rfl,es3,ck3,lm3,hm3,hp3,rfl⟩;refine Zv (BL (vs:=[(0,.func (.func 130) #[] #[]),(1,.func (.func 131) #[] #[])]) (cs:=#[.func (.func 130) #[] #[],.func (.func 131) #[] #[]]) Y (AY (pl:=#[(0,1),(1,1)]) Ad1 Ac3 (fun _=>by kernel_rfl) Ao8))<|Ze (Dk Gz Ac4 hm3 (fun _ _=>trivial) (trivial) Y Y Y Wo) ?_;rintro _ _ ⟨rfl,es4,ck4,lm4,hm4,hp4,rfl⟩;refine Zc [_] Y call133 Y V (OY (.func (.func 134) #[] #[]) V rfl) ?_;rintro _ _ ⟨_,⟨b5,rfl,rfl⟩,rfl⟩;refine Zv (BL (vs:=[(0,.func (.func 132) #[] #[]),(1,.func (.func 208) #[] #[I5 b5])]) (cs:=#[.func (.func 132) #[] #[],.func (.func 208) #[] #[I5 b5]]) Y (AY (pl:=#[(0,1),(1,1)]) Ad1 Ac3 (fun _=>by kernel_rfl) Ao8))<|Ze (Dk Gz Ac4 hm4 (fun _ _=>trivial) (trivial) Y Y Y Wo) ?_;rintro _ _ ⟨rfl,es5,ck5,lm5,hm5,hp5,rfl⟩;refine Zc [_] Y call133 Y V (OY (.func (.func 136) #[] #[]) V rfl) ?_;rintro _ _ ⟨_,⟨b6,rfl,rfl⟩,rfl⟩
 refine Zv (BL (vs:=[(0,.func (.func 135) #[] #[]),(1,.func (.func 208) #[] #[I5 b6])]) (cs:=#[.func (.func 135) #[] #[],.func (.func 208) #[] #[I5 b6]]) Y (AY (pl:=#[(0,1),(1,1)]) Ad1 Ac3 (fun _=>by kernel_rfl) Ao8))<|Ze (Dk Gz Ac4 hm5 (fun _ _=>trivial) (trivial) Y Y Y Wo) ?_;rintro _ _ ⟨rfl,es6,ck6,lm6,hm6,hp6,rfl⟩;refine Zv (BL (vs:=[(0,.func (.func 137) #[] #[]),(1,.func (.func 138) #[] #[])]) (cs:=#[.func (.func 137) #[] #[],.func (.func 138) #[] #[]]) Y (AY (pl:=#[(0,1),(1,1)]) Ad1 Ac3 (fun _=>by kernel_rfl) Ao8))<|Ze (Dk Gz Ac4 hm6 (fun _ _=>trivial) (trivial) Y Y Y Wo) ?_;rintro _ _ ⟨rfl,es7,ck7,lm7,hm7,hp7,rfl⟩;refine Zm Y<|Za Y<|Z0<|Zn [0] ?_;refine Zx<|AC<|AL V results68 Y (by
  refine ⟨mb,es7,ck7,lm7,b5,b6,V,hm7,fun p=>?_,V⟩;rw [hp7,hp6,hp5,hp4,hp3,hp2,hp1];simp only [LZ,za,AH2,An6,false_and];constructor
  · rintro (rfl|⟨rfl|⟨rfl|⟨rfl|⟨rfl|⟨rfl|⟨rfl,-⟩,-⟩,-⟩,-⟩,-⟩,-⟩)<;>simp
  · rintro (h|h|h|h|h|h|h)<;>subst h<;>simp)
theorem bQ(q:QM)(c:Chg)(hq:BH q){p1 p2:Option Addr}{s1 s2:List A8}(h1:II p1 (bfQ q c) s1)(h2:II p2 (afQ q c) s2):BJ Tryz.prog (Gh q.kd) #[.agg #[I4 q.kd,I4 q.tb,I4 q.cl,I4 q.lo,I4 q.hi,I4 q.bq,I4 q.ot,I4 c.t,I4 c.k,.bool c.had,I4 c.o.a,I4 c.o.b,I4 c.o.c,.bool c.has,I4 c.n.a,I4 c.n.b,I4 c.n.c,.pointer p1,.pointer p2,I4 (mQ q (bfQ q c)),I4 (mQ q (afQ q c))]] [] (.bool (CU q c)):=by
 have e1:=h1.some_;have e2:=h2.some_
 have hk:q.kd=1\/q.kd=2\/q.kd=3\/q.kd=4\/q.kd=5\/q.kd=6\/q.kd=7:=by have:=hq.2.2.2;omega
 have ha:=Z6 q c p1 p2 (mQ q (bfQ q c)) (mQ q (afQ q c));have ho:=SA q c p1 p2 (mQ q (bfQ q c)) (mQ q (afQ q c))
 have h4:=u6 q c p1 p2 (mQ q (bfQ q c)) (mQ q (afQ q c));have h5:=tu q c p1 p2 (mQ q (bfQ q c)) (mQ q (afQ q c))
 have h6:=tq q c p1 p2 (mQ q (bfQ q c)) (mQ q (afQ q c));have h7:=tZ q c p1 p2 (mQ q (bfQ q c)) (mQ q (afQ q c))
 rw [e1,e2]at ha ho h5 h6 h7;rcases hk with h|h|h|h|h|h|h
 · rw [show Gh q.kd=126 by rw [h];rfl,show CU q c=NZ q c by unfold CU;rw [Am7 Ao7]];exact ha
 · rw [show Gh q.kd=126 by rw [h];rfl,show CU q c=NZ q c by unfold CU;rw [Am7 Ao7]];exact ha
 · rw [show Gh q.kd=128 by rw [h];rfl,show CU q c=Tn q c by unfold CU;rw [Am6 Ao7,Am7 Ao7]];exact ho
 · rw [show Gh q.kd=130 by rw [h];rfl,show CU q c=decide (mQ q (bfQ q c)≠mQ q (afQ q c)) by unfold CU;rw [Am6 Ao7,Am6 Ao7,Am7 Ao7]];exact h4
 · rw [show Gh q.kd=132 by rw [h];rfl,show CU q c=(Tn q c||decide (mQ q (bfQ q c)≠mQ q (afQ q c))) by unfold CU;rw [Am6 Ao7,Am6 Ao7,Am6 Ao7,Am7 Ao7]];exact h5
 · rw [show Gh q.kd=135 by rw [h];rfl,show CU q c=(Tn q c||decide (mQ q (bfQ q c)≠mQ q (afQ q c))) by unfold CU;rw [Am6 Ao7,Am6 Ao7,Am6 Ao7,Am7 Ao7]];exact h6
 · rw [show Gh q.kd=137 by rw [h];rfl,show CU q c=(NZ q c||decide (c.t=q.ot)) by unfold CU;rw [Am6 Ao7,Am6 Ao7,Am6 Ao7,Am6 Ao7]];exact h7
theorem jJ(hk:1<=k/\k<=7):∀(args:Array Value) (w:World),(callFunc (Gh k) args).run Tryz.prog w= .ok (.enter (Gh k) args) w:=by
 obtain h|h|h|h|h|h|h:k=1\/k=2\/k=3\/k=4\/k=5\/k=6\/k=7:=by omega
 all_goals (subst h;simp only [Gh];first|exact call126|exact call128|exact call130|exact call132|exact call135|exact call137)
variable{q:QM}
theorem BH.kind(h:BH q):1<=q.kd/\q.kd<=7:=by have:=h.2.2.2;omega
theorem K8(q:QM)(c:Chg):BJ Tryz.prog 22 #[.agg #[I4 q.kd,I4 q.tb,I4 q.cl,I4 q.lo,I4 q.hi,I4 q.bq,I4 q.ot],.agg #[I4 c.t,I4 c.k,.bool c.had,I4 c.o.a,I4 c.o.b,I4 c.o.c,.bool c.has,I4 c.n.a,I4 c.n.b,I4 c.n.c]] [] (.bool (decide (BH q)&&(decide c.ok&&CU q c))):=by
 refine Se func22 ntmps22 [0,1] ?_;intro u R;refine Zq<|Zg<|Ze (Bx #[_,_,_,_,_,_,_]) ?_;rintro _ _ ⟨pq,rfl,rfl⟩;refine Ze (Bx #[_,_,_,_,_,_,_,_,_,_]) ?_;rintro _ _ ⟨pc,rfl,rfl⟩;refine Za Y<|Z0<|Zx<|Zq<|Az (n:=18) (0::1::3::7::15::31::63::127::127::383::1023::2047::127::127::12543::32767::65535::131071::[]) 49298 Ao8 Ao8 V<|Ao4 0 V Wh (AA (cs:=#[_,_,_,_,_,_,_]) AX9 AV8 Y (by(simp;done)) Ap1) ?_;refine Yw 1 3 V (Zu [_] Y call34 Y V (JJ q)) ?_;rintro _ _ ⟨rfl,rfl⟩;refine An9 2 V (AP Y)<|Cf (t:=7) Y (fun h1=>?_) (fun h1=>?_)
 ·
  rw [h1];refine Ao3 3 V Wh (AA (cs:=#[_,_,_,_,_,_,_,_,_,_]) Aa3 AW4 Y (by(simp;done)) Ap1) ?_;refine Yw 4 31 V (Zu [_] Y call67 Y V (UC c)) ?_;rintro _ _ ⟨rfl,rfl⟩;refine An9 5 V (AZ Y Y)<|An9 6 V (AP Y)<|Cf (t:=11) Y (fun h2=>?_) (fun h2=>?_)
  ·
   rw [h2];refine Ao2 8 V (AB (off:=0) AU9 V rfl AU1 Y)<|Ao3 9 V Wh (BX AU2 Y Ap1) ?_;refine Ao3 12 V Wh (AA (cs:=#[_,_,_,_,_,_,_]) AX9 AV8 Y (by(simp;done)) Ap1) ?_;refine Ao3 13 V Wh (AA (cs:=#[_,_,_,_,_,_,_,_,_,_]) Aa3 AW4 Y (by(simp;done)) Ap1) ?_;refine Zz (l:=[7])<|Ao5 [true,true,true] [(13,(_,_)),(12,(_,_)),(9,(_,_))] V rfl (Zw [] Y call68 Y V (NJ)) ?hk_3 Bp ?hl_3
   case hk_3=>
    rintro _ _ ⟨_,⟨mb,es,ck,lm,b5,b6,rfl,hm,hp,rfl⟩,rfl⟩;refine ⟨Zk (Zk (Zk (AV))),?_⟩;have hq:BH q:=An1 h1
    obtain ⟨pf,hget⟩:=oH hp hm.keys hq.kind;refine Ao3 10 rfl Wh (DK Gz Ac4 Ad1 hm (fun _ _=>trivial) (trivial) ((by rw [hget];exact rfl:_=Value.agg #[.func (.func (Gh q.kd)) #[] #[],pf])) Y Y) ?_;refine Ao2 11 V (Vi Ac3 V isAgg159 Y V)<|Zz (l:=[14])<|Ao5 [true,false,false,true] [(10,(_,_)),(9,(_,_))] V rfl (Zw [_,_] Y call69 Y V (JR q hq.2.1 (by have:=hq.2.2.2;omega) c)) ?hk_4 Bp ?hl_4
    case hk_4=>
     rintro _ _ ⟨_,⟨p1,p2,s1,s2,rfl,hP1,hP2,rfl⟩,rfl⟩;refine ⟨Zk (Zk (AV)),?_⟩;refine Yw 15 65535 V (Zu [_] Y (jJ hq.kind) Y V (bQ q c hq hP1 hP2)) ?_;rintro _ _ ⟨rfl,rfl⟩;refine An9 16 V (AZ Y Y)<|An9 17 V (Aq Y)<|Ag<|Zn [4] ?_;refine Zx<|AC<|AL V results22 Y (by exact ⟨by simp [h1,h2],V⟩)
    exact Ae
   exact Ae
  rw [h2];refine Ao1 7 V<|Ao1 8 V<|Ao1 9 V<|Ao1 10 V<|Ao1 11 V<|Ao1 12 V<|Ao1 13 V<|Ao1 14 V<|Ao1 15 V<|An9 16 V (AU Y Y)<|An9 17 V (Aq Y)<|Ag<|Zn [4] ?_;refine Zx<|AC<|AL V results22 Y (by exact ⟨by simp [h1,h2],V⟩)
 rw [h1];refine Ao1 3 V<|Ao1 4 V<|An9 5 V (AU Y Y)<|An9 6 V (AP Y)<|Ao1 7 V<|Ao1 8 V<|Ao1 9 V<|Ao1 10 V<|Ao1 11 V<|Ao1 12 V<|Ao1 13 V<|Ao1 14 V<|Ao1 15 V<|An9 16 V (AU Y Y)<|An9 17 V (Aq Y)<|Ag<|Zn [4] ?_;refine Zx<|AC<|AL V results22 Y (by exact ⟨by simp [h1],V⟩)
def ivQ(n:Int):Value:=I4 n
theorem gX(e:TypeId)(g c:Nat)(z:Value)(h:c<=maxLen):BZ 1 e (I6 g 0 c) 0 [] [(g,.cells (List.replicate c z).toArray e (0,0))]:=⟨rfl,.inr ⟨g,c,_,(0,0),rfl,rfl,zT _,h,by simp,by simp,BF _⟩⟩
variable{rows:List AQ}{i:Nat}{r:AQ}
theorem j6(h:rows[i]?=some r):Cg q (rows.take (i+1))=Cg q (rows.take i)++[Be r q.bq]:=by
 unfold Cg;rw [Bc h,zK];rfl
theorem Jr(q:QM)(rows:List AQ):(Cg q rows).length=rows.length:=by unfold Cg;rw [zH]
theorem tK(h:rows[i]?=some r):(Cg q rows)[i]?=some (Be r q.bq):=by unfold Cg;rw [zY,h];rfl
variable{M:List A8}
theorem dA(hv:Dh M v rows){v0:Int}{f0:Bool}(st:Nat->Int×Bool)(h0:st 0=(v0,f0))(fid:Nat)(us:List Value)(hcf:∀(args:Array Value) (w:World),(callFunc fid args).run Tryz.prog w= .ok (.enter fid args) w)(hf:∀(i:Nat) (r:AQ),rows[i]?=some r->BJ Tryz.prog fid (.agg #[.slice none 0 0,I4 (st i).1,.bool (st i).2]:: .agg #[I4 r.t,I4 r.k,I4 r.v.a,I4 r.v.b,I4 r.v.c]::us).toArray [M] (.agg #[.slice none 0 0,I4 (st (i+1)).1,.bool (st (i+1)).2])):BJ Tryz.prog 219 #[v,.agg #[.slice none 0 0,I4 v0,.bool f0],.func (.func fid) #[] us.toArray] [M] (.agg #[.slice none 0 0,I4 (st rows.length).1,.bool (st rows.length).2]):=by
 have hml:=mL;obtain ⟨p,cap,rfl,⟨hl,hlc⟩,hg⟩:=id hv;refine Se func219 ntmps219 [0,1,2] ?_;intro u R;refine Zq<|Zg<|Ze (Bx #[_,_,_]) ?_;rintro _ _ ⟨bo,rfl,rfl⟩;refine Ze (Al AW5 #[_,_,_]) ?_;rintro _ _ ⟨re,rfl,rfl⟩;refine Z0<|Zx<|Zq<|Zq<|Zg<|Zm Y<|Zv (Aa AU4 Y)<|Zm Y<|Z0<|Zx<|AO<|Zb [11,2,4,6,9,10] ?_;refine BI (e0:=[(11,_)]) (fun m e H=>∃(i:Nat),m=rows.length -i/\(i<=rows.length)/\e=[(11,I4 (i:Int))]/\H=[[(bo,.cells #[.slice none 0 0,I4 (st i).1,.bool (st i).2] 53 (0,0))]]) (by exact ⟨0,rfl,zT _,rfl,by rw [h0]⟩) Wp ?_;rintro _ _ _ ⟨i,rfl,hi,rfl,rfl⟩;refine Zq<|Zg<|Zv (Au Y Y)<|Z0<|Zx<|Zq<|Aw Y (fun hlt=>?_) (fun hlt=>?_)
 ·
  obtain ⟨r,hr⟩:∃r,rows[i]?=some r:=⟨_,zD hlt⟩;obtain ⟨g,off,cur,T,zz,rfl,hm9,hsz9,hex9⟩:=hg i r hr;refine AJ<|Zx<|Zq<|AO<|Zq<|Zg<|Bq (Ai AU4 AU5 Y Y Ao7)<|CW (cs:=[(g,.cells cur T zz)]) (by simp [hm9]) (AA (cs:=#[I4 r.t,I4 r.k,I4 r.v.a,I4 r.v.b,I4 r.v.c]) AX3 AU5 Y Ao7 hex9) V rfl ?_;refine Ze (Al AW7 #[_,_,_,_,_]) ?_;rintro _ _ ⟨rb,rfl,rfl⟩;refine Xe (Xw AU5 #[I4 r.t,I4 r.k,I4 r.v.a,I4 r.v.b,I4 r.v.c]) ?_;refine Z0<|Zx<|Zg<|Zm Y<|Zo Wh (AA (cs:=#[_,_,_]) AV6 AU3 Y (by(simp;done)) Ap1) ?_;refine Zo Wh (AA (cs:=#[_,_,_,_,_]) AX3 AU5 Y (by(simp;done)) Ap1) ?_;refine Xr [_,_] Y (hcf) Y V (hf i r hr) ?_;refine Xe (BK AU3 Y Y Ap9 Wu (by exact (rfl:_=(#[.slice none 0 0,I4 (st (i+1)).1,.bool (st (i+1)).2]:Array Value))) Ap3 (by(simp;done)) (by exact BF _)) ?_;refine Z0<|A9<|Zx<|Zg<|Ya (n:=1) Y Y<|Zm Y<|Z0<|Zn [11,2,4,6,9,10] ?_;refine Ad (e':=[(11,_)]) (by exact ⟨i+1,V,by omega,V,V⟩)
 have ei:i=rows.length:=by omega
 subst ei;refine BG<|Zt<|Zt<|AX<|Zx<|Zq<|Zg<|Zo Wh (AA (cs:=#[_,_,_]) AV6 AU3 Y (by(simp;done)) Ap1) ?_;refine Xe (Xw AU3 _) ?_;refine Z0<|Zx<|AC<|Cy V results219 Y Wh (Ap AV6 AU3 Wn (V)) (by exact ⟨V,V⟩)
variable{p:Option Addr}{cap:Nat}{ms:List Int}
theorem Sl(hc:F5 M p (ms.map ivQ))(hl:ms.length<=maxLen)(hlc:ms.length<=cap){v0:Int}{f0:Bool}(st:Nat->Int×Bool)(h0:st 0=(v0,f0))(fid:Nat)(us:List Value)(hcf:∀(args:Array Value) (w:World),(callFunc fid args).run Tryz.prog w= .ok (.enter fid args) w)(hf:∀(i:Nat) (x:Int),ms[i]?=some x->BJ Tryz.prog fid (.agg #[.slice none 0 0,I4 (st i).1,.bool (st i).2]::I4 x::us).toArray [M] (.agg #[.slice none 0 0,I4 (st (i+1)).1,.bool (st (i+1)).2])):BJ Tryz.prog 221 #[.slice p ms.length cap,.agg #[.slice none 0 0,I4 v0,.bool f0],.func (.func fid) #[] us.toArray] [M] (.agg #[.slice none 0 0,I4 (st ms.length).1,.bool (st ms.length).2]):=by
 have hml:=mL;refine Se func221 ntmps221 [0,1,2] ?_;intro u R;refine Zq<|Zg<|Ze (Bx #[_,_,_]) ?_;rintro _ _ ⟨bo,rfl,rfl⟩;refine Ze (Al AW5 #[_,_,_]) ?_;rintro _ _ ⟨re,rfl,rfl⟩;refine Z0<|Zx<|Zq<|Zq<|Zg<|Zm Y<|Zv (Aa AV0 Y)<|Zm Y<|Z0<|Zx<|AO<|Zb [11,2,4,6,9,10] ?_;refine BI (e0:=[(11,_)]) (fun m e H=>∃(i:Nat),m=ms.length -i/\(i<=ms.length)/\e=[(11,I4 (i:Int))]/\H=[[(bo,.cells #[.slice none 0 0,I4 (st i).1,.bool (st i).2] 53 (0,0))]]) (by exact ⟨0,rfl,zT _,rfl,by rw [h0]⟩) Wp ?_;rintro _ _ _ ⟨i,rfl,hi,rfl,rfl⟩;refine Zq<|Zg<|Zv (Au Y Y)<|Z0<|Zx<|Zq<|Aw Y (fun hlt=>?_) (fun hlt=>?_)
 ·
  obtain ⟨x,hx⟩:∃x,ms[i]?=some x:=⟨_,zD hlt⟩;obtain ⟨g,off,cur,T,zz,rfl,hm9,hex9⟩:=hc i (ivQ x) (by rw [zY,hx];rfl);have hex8:cur[off+i]?=some (I4 x):=hex9
  refine AJ<|Zx<|Zq<|AO<|Zq<|Zg<|Bq (CY AV0 AU1 Y Y Ap2)<|CW (cs:=[(g,.cells cur T zz)]) (by simp [hm9]) (BX AU2 Y (by exact hex8)) rfl rfl ?_;refine Za Y<|Z0<|Zx<|Zg<|Zm Y<|Zo Wh (AA (cs:=#[_,_,_]) AV6 AU3 Y (by(simp;done)) Ap1) ?_;refine Zm Y<|Xr [_,_] Y (hcf) Y V (hf i x hx) ?_;refine Xe (BK AU3 Y Y Ap9 Wu (by exact (rfl:_=(#[.slice none 0 0,I4 (st (i+1)).1,.bool (st (i+1)).2]:Array Value))) Ap3 (by(simp;done)) (by exact BF _)) ?_;refine Z0<|A9<|Zx<|Zg<|Ya (n:=1) Y Y<|Zm Y<|Z0<|Zn [11,2,4,6,9,10] ?_;refine Ad (e':=[(11,_)]) (by exact ⟨i+1,V,by omega,V,V⟩)
 have ei:i=ms.length:=by omega
 subst ei;refine BG<|Zt<|Zt<|AX<|Zx<|Zq<|Zg<|Zo Wh (AA (cs:=#[_,_,_]) AV6 AU3 Y (by(simp;done)) Ap1) ?_;refine Xe (Xw AU3 _) ?_;refine Z0<|Zx<|AC<|Cy V results221 Y Wh (Ap AV6 AU3 Wn (V)) (by exact ⟨V,V⟩)
theorem M5(hv:Dh M v rows)(q:QM)(hbq:0<=q.bq/\q.bq<=3)(hb:rows.length<=1000000000000):BR Tryz.prog 222 #[.agg #[I4 q.kd,I4 q.tb,I4 q.cl,I4 q.lo,I4 q.hi,I4 q.bq,I4 q.ot],v] [M] (fun r H'=>∃s,BZ 1 3 r (Cg q rows).length ((Cg q rows).map ivQ) s/\H'=[s,M]):=by
 have hml:=mL;obtain ⟨p,cap,rfl,⟨hl,hlc⟩,hg⟩:=id hv;refine Se func222 ntmps222 [0,1] ?_;intro u R;refine Zq<|Zg<|Ze (Bx #[_,_,_,_,_,_,_]) ?_;rintro _ _ ⟨bq,rfl,rfl⟩;refine Za Y<|Z0<|Zx<|Zq<|Zg<|Zm Y<|Zv (Aa AU4 Y)<|Ze (GA (by_:=8) (l:=0) AV0 (V:Tryz.prog.info? 3=some Tryz.t3) V rfl V rfl Y Y ?_ ?_ ?_) ?_
 (focus (omega))
 (focus (omega))
 (focus (omega))
 rintro _ _ ⟨mk,rfl,rfl⟩;refine Za Y<|Z0<|Zx<|Zq<|Zq<|Zg<|Zm Y<|Zv (Aa AU4 Y)<|Zm Y<|Z0<|Zx<|AO<|Zb [5,13,2,11,12] ?_;refine BI (e0:=[(5,_),(13,_)]) (fun m e H=>∃(i:Nat) (vo:Value) (so:List A8),m=rows.length -i/\(i<=rows.length/\BZ 1 3 vo i ((Cg q (rows.take i)).map ivQ) so)/\e=[(5,vo),(13,I4 (i:Int))]/\H=[so]) (by exact ⟨0,_,_,rfl,⟨zT _,by rw [AC9];exact gX _ _ _ (I4 0) Ao7⟩,rfl,rfl⟩) Wp ?_;rintro _ _ _ ⟨i,vo,so,rfl,⟨hi,hro⟩,rfl,rfl⟩;obtain ⟨qo,co,rfl⟩:=hro.form;refine Zq<|Zg<|Zv (Au Y Y)<|Z0<|Zx<|Zq<|Aw Y (fun hlt=>?_) (fun hlt=>?_)
 ·
  obtain ⟨r,hr⟩:∃r,rows[i]?=some r:=⟨_,zD hlt⟩;obtain ⟨g,off,cur,T,zz,rfl,hm9,hsz9,hex9⟩:=hg i r hr;refine AJ<|Zx<|Zq<|AO<|Zq<|Zg<|Bq (Ai AU4 AU5 Y Y Ao7)<|CW (cs:=[(g,.cells cur T zz)]) (by simp [hm9]) (AA (cs:=#[I4 r.t,I4 r.k,I4 r.v.a,I4 r.v.b,I4 r.v.c]) AX3 AU5 Y Ao7 hex9) V rfl ?_;refine Ze (Al AW7 #[_,_,_,_,_]) ?_;rintro _ _ ⟨rb,rfl,rfl⟩;refine Xe (Xw AU5 #[I4 r.t,I4 r.k,I4 r.v.a,I4 r.v.b,I4 r.v.c]) ?_;refine Z0<|Zx<|Zg<|Zm Y<|Zo Wh (AA (cs:=#[_,_,_,_,_]) AX3 AU5 Y (by(simp;done)) Ap1) ?_;refine Zh 5 AU9 V rfl AU1 Y<|Zl AU2 Y ?_;refine Xr [_,_] Y Ah3 Y V (FW r q.bq hbq) ?_;refine Ze (Af (vs:=[_]) (cs:=[_]) AV0 AU1 AX6 Y V rfl V rfl V) ?_;rintro _ _ ⟨gb,rfl,rfl⟩;refine Ze (Bl (by_:=8) (sz:=1) AV0 (V:Tryz.prog.info? 3=some Tryz.t3) V rfl V rfl Y (hro) Y (DD 1 gb 1 1 3 (0,0) [I4 (Be r q.bq)] V) Wo Wo Ap5 Ao7 Ao7) ?_;rintro _ _ ⟨sa9,hra9,rfl⟩;obtain ⟨ga9,ca9,rfl⟩:=hra9.form;refine Za Y<|Z0<|Zn [2,5,11,12,13] ?_;refine A9<|Zx<|Zg<|Ya (n:=1) Y Y<|Zm Y<|Z0<|Zn [5,13,2,11,12] ?_;refine Ad (e':=[(5,_),(13,_)]) (by exact ⟨i+1,_,_,rfl,⟨by omega,BO hra9 rfl (by rw [j6 hr,zK];rfl)⟩,rfl,rfl⟩)
 have ei:i=rows.length:=by omega
 subst ei;refine BG<|Zt<|Zt<|AX<|Zx<|Zq<|Zg<|Zm Y<|Za Y<|Z0<|Zx<|AC<|AL rfl results222 Y (by exact ⟨so,BO hro (Jr q rows).symm (by rw [AA4]),rfl⟩)
theorem Mo(v:Value)(h1:v.oneCell'=true)(hc:v.cells=#[v]):BR Tryz.prog 224 #[v] [] (fun r H'=>∃b,r= .func (.func 272) #[] #[I5 b]/\H'=[[(b,.cells #[v] 73 (0,0))]]):=by
 refine Se func224 ntmps224 [0] ?_;intro u R;refine Zq<|Zg<|Ze (EX Y (cs:=#[v]) hc) ?_;rintro _ _ ⟨b,rfl,rfl⟩;refine Za Y<|Z0<|Zx<|Zq<|Zg<|Zv (Bb (vs:=[]) (us:=[_]) Y Y)<|Za Y<|Z0<|Zx<|AC<|AL V results224 Y (by exact ⟨b,V,V⟩)
theorem jo(v n:Int)(f:Bool)(b fid:Nat)(lt:Int->Int->Bool)(hcf:∀(args:Array Value) (w:World),(callFunc fid args).run Tryz.prog w= .ok (.enter fid args) w)(hlt:∀x y:Int,BJ Tryz.prog fid #[I4 x,I4 y] [] (.bool (lt x y))):BJ Tryz.prog 272 #[.agg #[.slice none 0 0,I4 v,.bool f],I4 n,I5 b] [[(b,.cells #[.func (.func fid) #[] #[]] 73 (0,0))]] (.agg #[.slice none 0 0,I4 (if !f||lt n v then n else v),.bool true]):=by
 refine Se func272 ntmps272 [0,1,2] ?_;intro u R;refine Zq<|Zg<|Ze (Bx #[_,_,_]) ?_;rintro _ _ ⟨br,rfl,rfl⟩;refine Ze (Al AW5 #[_,_,_]) ?_;rintro _ _ ⟨bs,rfl,rfl⟩;refine Z0<|Zx<|Zq<|Zq<|Zg<|Zh 2 AU6 V rfl AX8 Y<|Zl Ab8 Y ?_;refine Zv (Br Y)<|Zm Y<|Aj (t:=9) Y V (fun h1=>?_) (fun h1=>?_)
 ·
  refine A7 Y V<|A7 Y V<|A7 Y V<|A7 Y V<|A7 Y V<|Zv (AZ Y Y)<|Z0<|Zx<|DV Y<|Zg<|Zm Y<|Zh 1 AU6 V rfl AU1 Y<|Xe (Zs AU1 Y Y V (hi:=by(simp;done))) ?_;refine Z0<|Zn [3,5] ?_;refine Zx<|Zq<|Zg<|Zh 2 AU6 V rfl AX8 Y<|Xe (Zs AX8 Y Y V (hi:=by(simp;done))) ?_;refine Z0<|Zx<|Zq<|Zg<|Zo Wh (AA (cs:=#[_,_,_]) AV6 AU3 Y (by(simp;done)) Ap1) ?_;refine Xe (Xw AU3 _) ?_;refine Z0<|Zx<|AC<|Cy V results272 Y Wh (Ap AV6 AU3 Wn (V)) (by exact ⟨by simp_all;rfl,V⟩)
 refine Yl isAgg73 Y ?_;refine Zf Y Y<|Yf 1 AU6 V rfl AU1 Y<|Yl AU2 Y ?_;refine Xr [_,_] Y (hcf) Y V (hlt n v) ?_;refine Zv (AU Y Y)<|Z0<|Zx<|AR Y (fun h2=>?_) (fun h2=>?_)
 ·
  refine Zg<|Zm Y<|Zh 1 AU6 V rfl AU1 Y<|Xe (Zs AU1 Y Y V (hi:=by(simp;done))) ?_;refine Z0<|Zn [3,5] ?_;refine Zx<|Zq<|Zg<|Zh 2 AU6 V rfl AX8 Y<|Xe (Zs AX8 Y Y V (hi:=by(simp;done))) ?_;refine Z0<|Zx<|Zq<|Zg<|Zo Wh (AA (cs:=#[_,_,_]) AV6 AU3 Y (by(simp;done)) Ap1) ?_;refine Xe (Xw AU3 _) ?_;refine Z0<|Zx<|AC<|Cy V results272 Y Wh (Ap AV6 AU3 Wn (V)) (by exact ⟨by simp_all;rfl,V⟩)
 refine AJ<|Zx<|Zq<|Zg<|Zh 2 AU6 V rfl AX8 Y<|Xe (Zs AX8 Y Y V (hi:=by(simp;done))) ?_;refine Z0<|Zn [3,5] ?_;refine Zx<|Zq<|Zg<|Zo Wh (AA (cs:=#[_,_,_]) AV6 AU3 Y (by(simp;done)) Ap1) ?_;refine Xe (Xw AU3 _) ?_;refine Z0<|Zx<|AC<|Cy V results272 Y Wh (Ap AV6 AU3 Wn (V)) (by exact ⟨by simp_all;rfl,V⟩)
theorem cB(x y:Int):BJ Tryz.prog 225 #[I4 x,I4 y] [] (.bool (decide (x<y))):=by
 refine Se func225 ntmps225 [0,1] ?_;intro u R;refine Zq<|Zg<|Za Y<|Z0<|Zx<|Zq<|Zg<|Zm Y<|Zm Y<|Zv (Dq Y Y)<|Za Y<|Z0<|Zx<|AC<|AL V results225 Y (by exact ⟨by rfl,V⟩)
theorem bg(x y:Int):BJ Tryz.prog 226 #[I4 x,I4 y] [] (.bool (decide (y<x))):=by
 refine Se func226 ntmps226 [0,1] ?_;intro u R;refine Zq<|Zg<|Za Y<|Z0<|Zx<|Zq<|Zg<|Zm Y<|Zm Y<|Zv (FI Y Y)<|Za Y<|Z0<|Zx<|AC<|AL V results226 Y (by exact ⟨by rfl,V⟩)
theorem cO(v:Int)(f:Bool)(r:AQ)(h:-9223372036854775807<=v/\v<=9223372036854775806):BJ Tryz.prog 220 #[.agg #[.slice none 0 0,I4 v,.bool f],.agg #[I4 r.t,I4 r.k,I4 r.v.a,I4 r.v.b,I4 r.v.c]] [] (.agg #[.slice none 0 0,I4 (v+1),.bool f]):=by
 refine Se func220 ntmps220 [0,1] ?_;intro u R;refine Zq<|Zg<|Ze (Bx #[_,_,_]) ?_;rintro _ _ ⟨br,rfl,rfl⟩;refine Ze (Bx #[_,_,_,_,_]) ?_;rintro _ _ ⟨bx,rfl,rfl⟩;refine Ze (Al AW5 #[_,_,_]) ?_;rintro _ _ ⟨b3,rfl,rfl⟩;refine Z0<|Zx<|Zq<|Zg<|Zh 1 AU6 V rfl AU1 Y<|Zl AU2 Y ?_;refine Yi Y Y<|Zh 1 AU6 V rfl AU1 Y<|Xe (Zs AU1 Y Y V (hi:=by(simp;done))) ?_;refine Z0<|Zx<|Zq<|Zg<|Zo Wh (AA (cs:=#[_,_,_]) AV6 AU3 Y (by(simp;done)) Ap1) ?_;refine Xe (Xw AU3 _) ?_;refine Z0<|Zx<|AC<|Cy V results220 Y Wh (Ap AV6 AU3 Wn (V)) (by exact ⟨V,V⟩)
theorem cK(v n:Int)(f:Bool)(h:-9223372036854775807<=v+n/\v+n<=9223372036854775806):BJ Tryz.prog 223 #[.agg #[.slice none 0 0,I4 v,.bool f],I4 n] [] (.agg #[.slice none 0 0,I4 (v+n),.bool f]):=by
 refine Se func223 ntmps223 [0,1] ?_;intro u R;refine Zq<|Zg<|Ze (Bx #[_,_,_]) ?_;rintro _ _ ⟨br,rfl,rfl⟩;refine Ze (Al AW5 #[_,_,_]) ?_;rintro _ _ ⟨b2,rfl,rfl⟩;refine Z0<|Zx<|Zq<|Zg<|Zh 1 AU6 V rfl AU1 Y<|Zl AU2 Y ?_;refine Zm Y<|Yi Y Y<|Zh 1 AU6 V rfl AU1 Y<|Xe (Zs AU1 Y Y V (hi:=by(simp;done))) ?_;refine Z0<|Zx<|Zq<|Zg<|Zo Wh (AA (cs:=#[_,_,_]) AV6 AU3 Y (by(simp;done)) Ap1) ?_;refine Xe (Xw AU3 _) ?_;refine Z0<|Zx<|AC<|Cy V results223 Y Wh (Ap AV6 AU3 Wn (V)) (by exact ⟨V,V⟩)
def vD(r:AQ):Value:= .agg #[I4 r.t,I4 r.k,I4 r.v.a,I4 r.v.b,I4 r.v.c]
theorem ng{lm2:List (Int×Value)}{k0:Int}(hn:(lm.map (·.1)).Nodup)(hn2:(lm2.map (·.1)).Nodup)(hp:∀p,p∈lm2↔p=(k0,v)\/(p∈lm/\p.1≠k0))(k:Int):Dm k lm2=if k=k0 then some v else Dm k lm:=by
 split
 · rename_i h
   rw [h];exact Ck hn2 ((hp _).2 (.inl V))
 · rename_i h
   cases hg:Dm k lm with
   |some x=>exact Ck hn2 ((hp _).2 (.inr ⟨Ug hg,h⟩))
   |none=>
    cases hg2:Dm k lm2 with
    |none=>rfl
    |some x=>
     rcases (hp _).1 (Ug hg2)with e|⟨e,_⟩
     · injection e with e1 e2;exact absurd e1 h
     · rw [Ck hn e]at hg;cases hg
variable{others:List AQ}{x:AQ}
theorem UZ(h:others[i]?=some x)(k:Int):DJ q (others.take (i+1)) k=(DJ q (others.take i) k).or (if x.t=q.ot/\x.k=k then some x else none):=by
 unfold DJ;rw [Bc h,List.find?_append];congr 1;simp only [List.find?_cons,List.find?_nil];split<;>simp_all
def TN(q:QM)(others:List AQ)(lm:List (Int×Value)):Prop:=∀k,Dm k lm=(DJ q others k).map vD
theorem Rp(h:others[i]?=some x)(hP:TN q (others.take i) lm)(hx:¬x.t=q.ot\/(DJ q (others.take i) x.k).isSome=true):TN q (others.take (i+1)) lm:=by
 intro k;rw [hP k,UZ h k];cases hg:DJ q (others.take i) k with
 |some y=>rfl
 |none=>
  rw [Am6]
  · rfl
  · rintro ⟨h1,rfl⟩
    rcases hx with hx|hx
    · exact hx h1
    · rw [hg]at hx;cases hx
theorem iK{lm2:List (Int×Value)}(h:others[i]?=some x)(hP:TN q (others.take i) lm)(hx:x.t=q.ot)(hs:(DJ q (others.take i) x.k).isSome=false)(hn:(lm.map (·.1)).Nodup)(hn2:(lm2.map (·.1)).Nodup)(hp:∀p,p∈lm2↔p=(x.k,vD x)\/(p∈lm/\p.1≠x.k)):TN q (others.take (i+1)) lm2:=by
 intro k;rw [ng hn hn2 hp k,UZ h k];split
 · rename_i hk
   have:DJ q (others.take i) k=none:=by
    rw [hk];cases hg:DJ q (others.take i) x.k with
    |none=>rfl
    |some y=>rw [hg]at hs;cases hs
   rw [this,Am7 ⟨hx,hk.symm⟩];rfl
 · rename_i hk
   rw [hP k,Am6 (fun h9=>hk h9.2.symm)];cases DJ q (others.take i) k<;>rfl
variable{y:AQ}
theorem Ua(hP:TN q others lm)(k:Int)(hy:y=(DJ q others k).getD ⟨0,0,⟨0,0,0⟩⟩):(Dm k lm).getD (.agg #[I4 (⟨0,0,⟨0,0,0⟩⟩:AQ).t,I4 (⟨0,0,⟨0,0,0⟩⟩:AQ).k,I4 (⟨0,0,⟨0,0,0⟩⟩:AQ).v.a,I4 (⟨0,0,⟨0,0,0⟩⟩:AQ).v.b,I4 (⟨0,0,⟨0,0,0⟩⟩:AQ).v.c])= .agg #[I4 y.t,I4 y.k,I4 y.v.a,I4 y.v.b,I4 y.v.c]/\(Dm k lm).isSome=(DJ q others k).isSome:=by
 rw [hP k,hy];cases DJ q others k<;>exact ⟨rfl,rfl⟩
theorem UY(hy:y=(DJ q others k).getD ⟨0,0,⟨0,0,0⟩⟩)(h:(DJ q others k).isSome=true):DJ q others k=some y:=by
 rw [hy];cases hp:DJ q others k with
 |none=>rw [hp]at h;cases h
 |some x=>rfl
variable{s:List A8}
theorem KW{sz:Nat}{e:TypeId}{n c k:Nat}{xs:List Value}(h:BZ sz e (.slice p n c) k xs s):F5 s p xs:=by
 intro j u hu;obtain ⟨hl,⟨_,rfl,_⟩|⟨g,cap,cur,z,hv,rfl,_,_,_,htk,_⟩⟩:=h
 · have:xs=[]:=AB0 Ao7
   subst this;cases hu
 · injection hv with h1 h2 h3
   subst h1;refine ⟨g,0,cur,e,z,V,by simp,?_⟩;have hj:=(zF.1 hu).1
   rw [<-htk,AA7,Am7 Ao7,AA3]at hu;rwa [zo]
theorem Pd(h:rows[i]?=some r):IL q (rows.take (i+1)) others=IL q (rows.take i) others++IK q others r:=by
 unfold IL;rw [Bc h,AE2,AP3]
theorem Ub(h:DJ q others (Be r q.bq)=some y):IK q others r=[r,y]:=by unfold IK;rw [h]
theorem iL(h:DJ q others (Be r q.bq)=none):IK q others r=[]:=by unfold IK;rw [h]
theorem mr(q:QM)(others:List AQ)(r:AQ):(IK q others r).length<=2:=by unfold IK;split<;>simp
theorem SN(q:QM)(rows others:List AQ):(IL q rows others).length<=2*rows.length:=by
 induction rows with
 |nil=>simp [IL]
 |cons r rows ih=>
  have:=mr q others r;unfold IL at*;rw [AB2,zG,ze];omega
variable{vo:Value}
set_option maxHeartbeats 1000000 in
theorem Xz(hv:Dh M v rows)(ho:Dh M vo others)(q:QM)(hbq:0<=q.bq/\q.bq<=3)(hb:rows.length<=100000000000):BR Tryz.prog 227 #[.agg #[I4 q.kd,I4 q.tb,I4 q.cl,I4 q.lo,I4 q.hi,I4 q.bq,I4 q.ot],v,vo] [M] (fun r H'=>∃s,BZ 5 83 r (IL q rows others).length (Ac (IL q rows others)) s/\H'=[s,M]):=by
 have hml:=mL;obtain ⟨p,cap,rfl,⟨hl,hlc⟩,hg⟩:=id hv;obtain ⟨po,capo,rfl,⟨hlo,hlco⟩,hgo⟩:=id ho;refine Se func227 ntmps227 [0,1,2] ?_;intro u R;refine Zq<|Zg<|Ze (Bx #[_,_,_,_,_,_,_]) ?_;rintro _ _ ⟨bq,rfl,rfl⟩;refine Za Y<|Z0<|Zx<|Zq<|Zg<|Ze (D6) ?_;rintro _ _ ⟨mb,rfl,rfl⟩;refine Za Y<|Z0<|Zx<|Zq<|Zq<|Zg<|Zm Y<|Zv (Aa AU4 Y)<|Zm Y<|Z0<|Zx<|AO<|Zb [19,1,3,6,7,17,18] ?_;refine BI (e0:=[(19,_)]) (fun m e H=>∃(i:Nat) (es:Array MapEntry) (ck:Nat) (lm:List (Int×Value)),m=others.length -i/\(i<=others.length/\Ce (fun k:Int=>I4 k) es ck lm/\TN q (others.take i) lm)/\e=[(19,I4 (i:Int))]/\H=[[(mb,.map es ck)]]) (by exact ⟨0,#[],0,[],V,⟨zT _,E5 _,fun k=>rfl⟩,V,V⟩) Wp ?_;rintro _ _ _ ⟨i,es,ck,lm,rfl,⟨hi,hm,hP⟩,rfl,rfl⟩;refine Zq<|Zg<|Zv (Au Y Y)<|Z0<|Zx<|Zq<|Aw Y (fun hlt=>?_) (fun hlt=>?_)
 ·
  obtain ⟨x,hx⟩:∃x,others[i]?=some x:=⟨_,zD hlt⟩;obtain ⟨g1,off1,cur1,T1,zz1,rfl,hm1,hsz1,hex1⟩:=hgo i x hx;refine AJ<|Zx<|Zq<|AO<|Zq<|Zg<|Bq (Ai AU4 AU5 Y Y Ao7)<|CW (cs:=[(g1,.cells cur1 T1 zz1)]) (by simp [hm1]) (AA (cs:=#[I4 x.t,I4 x.k,I4 x.v.a,I4 x.v.b,I4 x.v.c]) AX3 AU5 Y Ao7 hex1) V rfl ?_;refine Ze (Al AW7 #[_,_,_,_,_]) ?_;rintro _ _ ⟨bx,rfl,rfl⟩;refine Xe (Xw AU5 #[I4 x.t,I4 x.k,I4 x.v.a,I4 x.v.b,I4 x.v.c]) ?_;refine Z0<|Zx<|Zq ?_;obtain ⟨y0,hy0⟩:∃y,y=(DJ q (others.take i) x.k).getD ⟨0,0,⟨0,0,0⟩⟩:=⟨_,rfl⟩;refine Zg<|Zm Y<|Zh 1 AX4 V rfl AU1 Y<|Zl AU2 Y ?_;refine Zo Wh (De Gz underlying366 AW7 hm (fun _ _=>trivial) (trivial) (Ua hP x.k hy0) Y Y) ?_;refine Zm Y<|Zd Y V<|Zd Y V<|Ze (Al AW7 #[_,_,_,_,_]) ?_;rintro _ _ ⟨bt,rfl,rfl⟩;refine Xe (Xw AU5 #[I4 y0.t,I4 y0.k,I4 y0.v.a,I4 y0.v.b,I4 y0.v.c]) ?_;refine Za Y<|Z0<|Zn [1,3,6,7,9,11,17,18,19] ?_;refine Zx<|Zq ?_;obtain ⟨y0,hy0⟩:∃y,y=(DJ q (others.take i) x.k).getD ⟨0,0,⟨0,0,0⟩⟩:=⟨_,rfl⟩;refine Zg<|Zh 0 AX4 V rfl AU1 Y<|Zl AU2 Y ?_;refine Zh 6 AU9 V rfl AU1 Y<|Zl AU2 Y ?_;refine Zv (CL Y Y)<|Zm Y<|Ak (t:=35) Y V (fun h1=>?_) (fun h1=>?_)
  ·
   refine Zf Y Y<|Yg (Br Y)<|Zv (AZ Y Y)<|Z0<|Zx<|AR Y (fun h2=>?_) (fun h2=>?_)
   ·
    refine Zg<|Zm Y<|Zh 1 AX4 V rfl AU1 Y<|Zl AU2 Y ?_;refine Zo Wh (AA (cs:=#[_,_,_,_,_]) AX3 AU5 Y (by(simp;done)) Ap1) ?_;refine Ze (Et Gz underlying366 hm (fun _ _=>trivial) (trivial) Y Y Y Wo) ?_;rintro _ _ ⟨rfl,es2,ck2,lm2,hm2,hp2,rfl⟩;have hP2:TN q (others.take (i+1)) lm2:=iK hx hP h1 (by simpa using h2) hm.keys hm2.keys hp2
    refine Z0<|Zn [1,3,6,7,17,18,19] ?_;refine A9<|Zx<|Zg<|Ya (n:=1) Y Y<|Zm Y<|Z0<|Zn [19,1,3,6,7,17,18] ?_;refine Ad (e':=[(19,_)]) (by exact ⟨i+1,_,_,_,V,⟨by omega,hm2,hP2⟩,V,V⟩)
   refine AJ<|A9<|Zx<|Zg<|Ya (n:=1) Y Y<|Zm Y<|Z0<|Zn [19,1,3,6,7,17,18] ?_;refine Ad (e':=[(19,_)]) (by exact ⟨i+1,es,ck,lm,rfl,⟨by omega,hm,Rp hx hP (by first|exact .inl Ao7|exact .inr (by simpa using h2))⟩,rfl,rfl⟩)
  refine A7 Y V<|A7 Y V<|Zv (AU Y Y)<|Z0<|Zx<|Dv Y<|AJ<|A9<|Zx<|Zg<|Ya (n:=1) Y Y<|Zm Y<|Z0<|Zn [19,1,3,6,7,17,18] ?_;refine Ad (e':=[(19,_)]) (by exact ⟨i+1,es,ck,lm,rfl,⟨by omega,hm,Rp hx hP (by first|exact .inl Ao7|exact .inr (by simpa using h2))⟩,rfl,rfl⟩)
 have ei:i=others.length:=by omega
 subst ei;rw [AA4]at hP;refine BG<|Zt<|Zt<|AX<|Zx<|Zq<|Zq<|Zg<|Zo Wh (AA (cs:=#[_,_,_,_,_,_,_]) AX9 AV8 Y (by(simp;done)) Ap1) ?_;refine Zm Y<|Zc [_,_] Y call222 Y V (M5 hv q hbq Ao7) ?_;rintro _ _ ⟨_,⟨sm,hrm,rfl⟩,rfl⟩;obtain ⟨gm,cm,rfl⟩:=hrm.form;refine Zv (Aa AV0 Y)<|Zm Y<|Z0<|Zx<|AO<|BV ?_;have hcs:F5 sm gm ((Cg q rows).map ivQ):=KW hrm
 have hml2:=Jr q rows;refine Zb [6,48,1,7,46,47] ?_;refine BI (e0:=[(6,_),(48,_)]) (fun m e H=>∃(i:Nat) (w:Value) (so:List A8),m=rows.length -i/\(i<=rows.length/\BZ 5 83 w (IL q (rows.take i) others).length (Ac (IL q (rows.take i) others)) so)/\e=[(6,w),(48,I4 (i:Int))]/\H=[so]) (by exact ⟨0,.slice none 0 0,[],rfl,⟨zT _,by rw [AC9];exact Bf 5 _⟩,rfl,rfl⟩) Wp ?_;rintro _ _ _ ⟨i,w,so,rfl,⟨hi,hro⟩,rfl,rfl⟩;obtain ⟨qo,co,rfl⟩:=hro.form;have hjl:(IL q (rows.take i) others).length<=2*i:=AK0 (SN _ _ _) (by rw [zN];omega)
 refine Zq<|Zg<|Zv (Au Y Y)<|Z0<|Zx<|Zq<|Aw Y (fun hlt=>?_) (fun hlt=>?_)
 ·
  obtain ⟨r,hr⟩:∃r,rows[i]?=some r:=⟨_,zD Ao7⟩;obtain ⟨g2,off2,cur2,T2,zz2,rfl,hm2,hex2⟩:=hcs i (ivQ (Be r q.bq)) (by rw [zY,tK hr];rfl);have hex8:cur2[off2+i]?=some (I4 (Be r q.bq)):=hex2
  obtain ⟨y1,hy1⟩:∃y,y=(DJ q others (Be r q.bq)).getD ⟨0,0,⟨0,0,0⟩⟩:=⟨_,rfl⟩;refine AJ<|Zx<|Zq<|AO<|Zq<|Zg<|Zm Y<|Bq (CY AV0 AU1 Y Y Ap2)<|CW (cs:=[(g2,.cells cur2 T2 zz2)]) (by simp [hm2]) (BX AU2 Y (by exact hex8)) rfl rfl ?_;refine Za Y<|Za Y<|Z0<|Zx<|Zq<|Zg<|Zm Y<|Zm Y<|Zo Wh (De Gz underlying366 AW7 hm (fun _ _=>trivial) (trivial) (Ua hP (Be r q.bq) hy1) Y Y) ?_;refine Zm Y<|Zd Y V<|Zd Y V<|Ze (Al AW7 #[_,_,_,_,_]) ?_;rintro _ _ ⟨by1,rfl,rfl⟩;refine Xe (Xw AU5 #[I4 y1.t,I4 y1.k,I4 y1.v.a,I4 y1.v.b,I4 y1.v.c]) ?_;refine Za Y<|Z0<|Zn [1,6,7,12,14,15,46,47,48] ?_;refine Zx<|Zq<|Zg<|Zm Y<|Z0<|Zx<|AR Y (fun h5=>?_) (fun h5=>?_)
  ·
   obtain ⟨g3,off3,cur3,T3,zz3,rfl,hm3,hsz3,hex3⟩:=hg i r hr;refine Az (n:=9) (0::0::0::6::14::0::62::127::255::[]) 192 Ao8 Ao8 V<|An9 0 V (AP Y)<|An9 1 V (AP Y)<|An9 2 V (AP Y)<|An9 3 V (Ai AU4 AU5 Y Y Ao7)<|Cw (b:=g3) (x:= .cells cur3 T3 zz3) (D':=31) 4 V rfl V (by simp [hm3]) (AA (cs:=#[I4 r.t,I4 r.k,I4 r.v.a,I4 r.v.b,I4 r.v.c]) AX3 AU5 Y Ao7 hex3) ?_;refine Ao4 5 V Wh (AA (cs:=#[_,_,_,_,_]) AX3 AU5 Y (by(simp;done)) Ap1) ?_;refine Yw 6 127 V (Af (vs:=[_,_]) (cs:=[_,_,_,_,_,_,_,_,_,_]) AU4 AU5 AW7 Y V rfl V rfl V) ?_;rintro _ _ ⟨gb,rfl,rfl⟩;refine Yw 7 255 V (Bl (by_:=40) (sz:=5) AU4 (V:Tryz.prog.info? 83=some Tryz.t83) V rfl V rfl Y (hro) Y (DD 5 gb 2 2 83 (0,0) [I4 r.t,I4 r.k,I4 r.v.a,I4 r.v.b,I4 r.v.c,I4 y1.t,I4 y1.k,I4 y1.v.a,I4 y1.v.b,I4 y1.v.c] V) Wo Wo Ap5 Ao7 Ao7) ?_;rintro _ _ ⟨sa9,hra9,rfl⟩;obtain ⟨ga9,ca9,rfl⟩:=hra9.form;refine An9 8 V (Aq Y)<|Ag<|A9<|Zx<|Zg<|Ya (n:=1) Y Y<|Zm Y<|Z0<|Zn [6,48,1,7,46,47] ?_;refine Ad (e':=[(6,_),(48,_)]) (by exact ⟨i+1,_,_,rfl,⟨by omega,BO hra9 (by rw [Pd hr,Ub (UY hy1 h5),zG];rfl) (by rw [Pd hr,Ub (UY hy1 h5),C9];rfl)⟩,rfl,rfl⟩)
  refine AJ<|A9<|Zx<|Zg<|Ya (n:=1) Y Y<|Zm Y<|Z0<|Zn [6,48,1,7,46,47] ?_;refine Ad (e':=[(6,_),(48,_)]) (by exact ⟨i+1,_,so,rfl,⟨by omega,by rw [Pd hr,iL (AQ7.1 (by simpa using h5)),zV];exact hro⟩,rfl,rfl⟩)
 have ei:i=rows.length:=by omega
 subst ei;rw [AA4]at hro⊢;refine BG<|Zt<|Zt<|AX<|Zx<|Zq<|Zg<|Zm Y<|Za Y<|Z0<|Zx<|AC<|AL V results227 Y (by exact ⟨so,hro,V⟩)
def I7(q:QM)(rows others:List AQ):Bw:=if BH q then F8 q rows others else Bw.none
theorem vL(h:¬BH q):I7 q rows others=⟨[],0,false⟩:=Am6 h
theorem OW(h:BH q):I7 q rows others=F8 q rows others:=Am7 h
theorem y8(h:BH q)(k:q.kd=3):I7 q rows others=⟨[],rows.length,false⟩:=by rw [OW h];unfold F8;rw [Am7 k]
theorem y7(h:BH q)(k:q.kd=4):I7 q rows others=⟨[],Kw (Cg q rows),false⟩:=by rw [OW h];unfold F8;rw [Am6 Ao7,Am7 k]
theorem xz(h:BH q)(k:q.kd=5):I7 q rows others=E8 (fun a b=>decide (a<b)) (Cg q rows):=by rw [OW h];unfold F8;rw [Am6 Ao7,Am6 Ao7,Am7 k]
theorem xy(h:BH q)(k:q.kd=6):I7 q rows others=E8 (fun a b=>decide (b<a)) (Cg q rows):=by rw [OW h];unfold F8;rw [Am6 Ao7,Am6 Ao7,Am6 Ao7,Am7 k]
theorem xx(h:BH q)(k:q.kd=7):I7 q rows others=⟨IL q rows others,0,false⟩:=by rw [OW h];unfold F8;rw [Am6 Ao7,Am6 Ao7,Am6 Ao7,Am6 Ao7,Am7 k]
theorem yA(h:BH q)(k3:¬q.kd=3)(k4:¬q.kd=4)(k5:¬q.kd=5)(k6:¬q.kd=6)(k7:¬q.kd=7):I7 q rows others=⟨rows,0,false⟩:=by rw [OW h];unfold F8;rw [Am6 k3,Am6 k4,Am6 k5,Am6 k6,Am6 k7]
theorem gJ{x:Int}(h:ms[i]?=some x):Kw (ms.take (i+1))=Kw (ms.take i)+x:=by unfold Kw;rw [Bc h,AJ6];rfl
theorem R3(B:Int):∀(ms:List Int),(∀m∈ms,-B<=m/\m<=B)->-(ms.length*B)<=JX ms/\JX ms<=ms.length*B
 |[],_=>by simp [JX]
 |m::ms,h=>by
  have h1:=h m Ap0;have h2:=R3 B ms (fun y hy=>h y (zW _ hy))
  have h3:((m::ms).length:Int)*B=ms.length*B+B:=by rw [ze];push_cast;rw [Int.add_mul,Int.one_mul]
  simp only [JX];omega
theorem eB(h:∀m∈ms,-1000000000<=m/\m<=1000000000)(hl:ms.length<=1000000000)(i:Nat):-1000000000000000000<=Kw (ms.take i)/\Kw (ms.take i)<=1000000000000000000:=by
 have h1:=R3 1000000000 (ms.take i) (fun m hm=>h m (AI9 hm));have h2:(ms.take i).length<=1000000000:=by rw [zN];omega
 unfold Kw;rw [M8];omega
theorem jm{lt:Int->Int->Bool}{x:Int}(h:ms[i]?=some x):E8 lt (ms.take (i+1))=⟨(E8 lt (ms.take i)).rows,if !(E8 lt (ms.take i)).fnd||lt x (E8 lt (ms.take i)).val then x else(E8 lt (ms.take i)).val,true⟩:=by unfold E8;rw [Bc h,AJ6];rfl
theorem Uv(lt:Int->Int->Bool)(ms:List Int):∀r:Bw,(ms.foldl (fun r n=>⟨r.rows,if !r.fnd||lt n r.val then n else r.val,true⟩:Bw->Int->Bw) r).rows=r.rows:=by
 induction ms with
 |nil=>intro r;rfl
 |cons m ms ih=>intro r;rw [AI6,ih]
theorem dJ(hv:Dh M v rows)(hb:rows.length<=1000000000):BJ Tryz.prog 219 #[v,.agg #[.slice none 0 0,I4 0,.bool false],.func (.func 220) #[] #[]] [M] (.agg #[.slice none 0 0,I4 (rows.length:Int),.bool false]):=
 dA hv (fun i=>((i:Int),false)) rfl 220 [] call220 (fun i r hr=>by
  have hlt:=(zF.1 hr).1;have:=cO (i:Int) false r Ao7
  exact QE this)
theorem lJ(hc:F5 s p (ms.map ivQ))(hl:ms.length<=1000000000)(hlc:ms.length<=cap)(hm:∀m∈ms,-1000000000<=m/\m<=1000000000):BJ Tryz.prog 221 #[.slice p ms.length cap,.agg #[.slice none 0 0,I4 0,.bool false],.func (.func 223) #[] #[]] [s] (.agg #[.slice none 0 0,I4 (Kw ms),.bool false]):=by
 have hml:=mL;have h:=Sl hc Ao7 hlc (fun i=>(Kw (ms.take i),false)) rfl 223 [] call223 (fun i x hx=>by
  have h1:=eB hm hl i;have h2:=hm x (zP hx)
  have h3:=cK (Kw (ms.take i)) x false Ao7;show BJ _ _ _ _ (.agg #[.slice none 0 0,I4 (Kw (ms.take (i+1))),.bool false])
  rw [gJ hx];exact QE h3)
 rwa [AA4]at h
theorem YW(hc:F5 s p (ms.map ivQ))(hl:ms.length<=1000000000)(hlc:ms.length<=cap)(b fid:Nat)(lt:Int->Int->Bool)(hcf:∀(args:Array Value) (w:World),(callFunc fid args).run Tryz.prog w= .ok (.enter fid args) w)(hlt:∀x y:Int,BJ Tryz.prog fid #[I4 x,I4 y] [] (.bool (lt x y))):BJ Tryz.prog 221 #[.slice p ms.length cap,.agg #[.slice none 0 0,I4 0,.bool false],.func (.func 272) #[] #[I5 b]] [s,[(b,.cells #[.func (.func fid) #[] #[]] 73 (0,0))]] (.agg #[.slice none 0 0,I4 (E8 lt ms).val,.bool (E8 lt ms).fnd]):=by
 have hml:=mL;refine jy ?_;have h:=Sl (M:=s++[(b,.cells #[.func (.func fid) #[] #[]] 73 (0,0))]) (ms:=ms) (p:=p) (fun j u hu=>by
  obtain ⟨g,o,c,T,z,h1,h2,h3⟩:=hc j u hu;exact ⟨g,o,c,T,z,h1,zR _ h2,h3⟩) Ao7 hlc (fun i=>((E8 lt (ms.take i)).val,(E8 lt (ms.take i)).fnd)) V 272 [I5 b] call272 (fun i x hx=>by
  show BJ _ _ _ _ (.agg #[.slice none 0 0,I4 (E8 lt (ms.take (i+1))).val,.bool (E8 lt (ms.take (i+1))).fnd]);rw [jm hx];exact Ye (jo (E8 lt (ms.take i)).val x (E8 lt (ms.take i)).fnd b fid lt hcf hlt))
 rwa [AA4]at h
theorem fA(h:∀r∈rows,-1000000000<=Be r q.bq/\Be r q.bq<=1000000000):∀m∈Cg q rows,-1000000000<=m/\m<=1000000000:=by
 intro m hm;obtain ⟨r,hr,rfl⟩:=zQ.1 hm;exact h r hr
set_option maxHeartbeats 1000000 in
theorem jb(hv:Dh M v rows)(ho:Dh M vo others)(q:QM)(hb:rows.length<=1000000000)(hm:BH q->∀r∈rows,-1000000000<=Be r q.bq/\Be r q.bq<=1000000000):BR Tryz.prog 161 #[.agg #[I4 q.kd,I4 q.tb,I4 q.cl,I4 q.lo,I4 q.hi,I4 q.bq,I4 q.ot],v,vo] [M] (fun w H'=>∃rv s,w= .agg #[rv,I4 (I7 q rows others).val,.bool (I7 q rows others).fnd]/\BZ 5 83 rv (I7 q rows others).rows.length (Ac (I7 q rows others).rows) s/\H'=[s,M]):=by
 have hml:=mL;refine Se func161 ntmps161 [0,1,2] ?_;intro u R;refine Zq<|Zg<|Ze (Bx #[_,_,_,_,_,_,_]) ?_;rintro _ _ ⟨bq,rfl,rfl⟩;refine Ze (Al AW5 #[_,_,_]) ?_;rintro _ _ ⟨br,rfl,rfl⟩;refine Z0<|Zx<|Zq<|Zq<|Zg<|Zo Wh (AA (cs:=#[_,_,_,_,_,_,_]) AX9 AV8 Y (by(simp;done)) Ap1) ?_;refine Xr [_] Y call34 Y V (JJ q) ?_;refine Zv (Eg Y)<|Z0<|Zx<|AR Y (fun hq=>?_) (fun hq=>?_)
 ·
  have hq9:¬BH q:=by simpa using hq
  refine Zq<|BV<|Zg<|Zv (BL (vs:=[]) (cs:=#[_,_,_]) Y (AY (pl:=#[(0,1),(1,1),(2,1)]) AW5 AU6 (fun _=>by kernel_rfl) V))<|Xe (Xw AU3 _) ?_;refine Z0<|Zx<|AC<|Zt<|Cy rfl Ai0 Y Wh (Ap AV6 AU3 Wn (rfl)) (by exact ⟨.slice none 0 0,[],by rw [vL hq9];rfl,by rw [vL hq9];exact Bf 5 _,rfl⟩)
 have hq9:BH q:=by simpa using hq
 have hbq9:0<=q.bq/\q.bq<=3:=by have:=hq9.2.2.2;omega
 have hm9:=fA (hm hq9);refine AJ<|Zx<|Zq<|Zg<|Ze (Al AW5 #[_,_,_]) ?_;rintro _ _ ⟨bn,rfl,rfl⟩;refine Z0<|Zx<|Zq<|Zq<|Zg<|Zh 0 AU9 V rfl AU1 Y<|Zl AU2 Y ?_;refine Z0<|Zx<|AO<|Zq<|Zg<|Zv (CL Y Y)<|Za Y<|Z0<|Zx<|Aw Y (fun k3=>?_) (fun k3=>?_)
 ·
  refine Zq<|BV<|Zg<|Zm Y<|Zo Wh (Pa #[_,_,_] AV6 AU3 Y) ?_;refine Xr [_,_,_] Y call219 Y V (dJ hv hb) ?_;refine Xe (Xw AU3 _) ?_;refine Z0<|Zn [6] ?_;refine Zx<|AC<|Ab<|Zt<|Cy rfl Ai0 Y Wh (Ap AV6 AU3 Wn (rfl)) (by exact ⟨.slice none 0 0,[],by rw [y8 hq9 k3];rfl,by rw [y8 hq9 k3];exact Bf 5 _,rfl⟩)
 refine Zq<|Zg<|Zv (CL Y Y)<|Za Y<|Z0<|Zx<|Aw Y (fun k4=>?_) (fun k4=>?_)
 ·
  refine Zq<|BV<|Az (n:=6) (0::0::3::0::15::31::[]) 52 Ao8 Ao8 V<|Ao4 0 V Wh (AA (cs:=#[_,_,_,_,_,_,_]) AX9 AV8 Y (by(simp;done)) Ap1) ?_;refine An9 1 V (AP Y)<|Ao4 3 V Wh (Pa #[_,_,_] AV6 AU3 Y) ?_;refine Zz (l:=[2])<|Ao5 [true,false] [(3,(_,_))] V rfl (Zw [_,_] Y call222 Y V (M5 hv q hbq9 Ao7)) ?hk_3 Bp ?hl_3
  case hk_3=>
   rintro _ _ ⟨_,⟨sm,hrm,rfl⟩,rfl⟩;refine ⟨Zk (AV),?_⟩;obtain ⟨gm,cm,rfl⟩:=hrm.form;have hcs:F5 sm gm ((Cg q rows).map ivQ):=KW hrm
   have hml2:=Jr q rows;have hcm2:=Ew hrm
   refine Yw 4 31 V (Zu [_,_,_] Y call221 Y V (lJ hcs Ao7 Ao7 hm9)) ?_;rintro _ _ ⟨rfl,rfl⟩;refine Yw 5 63 V (Xw AU3 _) ?_;rintro _ _ ⟨rfl,rfl⟩;refine Ag<|Zn [6] ?_;refine Zx<|AC<|Ab<|Zt<|Cy rfl Ai0 Y Wh (Ap AV6 AU3 Wn (rfl)) (by exact ⟨.slice none 0 0,[],by rw [y7 hq9 k4];rfl,by rw [y7 hq9 k4];exact Bf 5 _,rfl⟩)
  exact Ae
 refine Zq<|Zg<|Zv (CL Y Y)<|Za Y<|Z0<|Zn [1,2,3,6,7,13,26] ?_;refine Zx<|Aw Y (fun k5=>?_) (fun k5=>?_)
 ·
  refine Zq<|BV<|Az (n:=7) (0::0::3::0::7::31::63::[]) 116 Ao8 Ao8 V<|Ao4 0 V Wh (AA (cs:=#[_,_,_,_,_,_,_]) AX9 AV8 Y (by(simp;done)) Ap1) ?_;refine An9 1 V (AP Y)<|Ao4 3 V Wh (Pa #[_,_,_] AV6 AU3 Y) ?_;refine Zz (l:=[2])<|Ao5 [true,false] [(3,(_,_))] V rfl (Zw [_,_] Y call222 Y V (M5 hv q hbq9 Ao7)) ?hk_7 Bp ?hl_7
  case hk_7=>
   rintro _ _ ⟨_,⟨sm,hrm,rfl⟩,rfl⟩;refine ⟨Zk (AV),?_⟩;obtain ⟨gm,cm,rfl⟩:=hrm.form;have hcs:F5 sm gm ((Cg q rows).map ivQ):=KW hrm
   have hml2:=Jr q rows;have hcm2:=Ew hrm
   refine Zz (l:=[4])<|Ao5 [true] [(3,(_,_))] V rfl (Zw [_] Y call224 Y V (Mo (.func (.func 225) #[] #[]) V rfl)) ?hk_8 Bp ?hl_8
   case hk_8=>
    rintro _ _ ⟨_,⟨b9,rfl,rfl⟩,rfl⟩;refine ⟨Zk (AV),?_⟩;refine Yw 5 63 V (Zu [_,_,_] Y call221 Y V (YW hcs Ao7 Ao7 b9 225 _ call225 cB)) ?_;rintro _ _ ⟨rfl,rfl⟩;refine Yw 6 127 V (Xw AU3 _) ?_;rintro _ _ ⟨rfl,rfl⟩;refine Ag<|Zx<|AC<|Ab<|Zt<|Cy V Ai0 Y Wh (Ap AV6 AU3 Wn (V)) (by
     have e8:=Uv (fun a b=>decide (a<b)) (Cg q rows) Bw.none;exact ⟨.slice none 0 0,[],by rw [xz hq9 k5];rfl,by rw [xz hq9 k5];rw [show(E8 (fun a b=>decide (a<b)) (Cg q rows)).rows=[] from e8];exact Bf 5 _,rfl⟩)
   exact Ae
  exact Ae
 refine Zq<|Zg<|Zv (CL Y Y)<|Za Y<|Z0<|Zx<|Aw Y (fun k6=>?_) (fun k6=>?_)
 ·
  refine Zq<|BV<|Az (n:=7) (0::0::3::0::7::31::63::[]) 116 Ao8 Ao8 V<|Ao4 0 V Wh (AA (cs:=#[_,_,_,_,_,_,_]) AX9 AV8 Y (by(simp;done)) Ap1) ?_;refine An9 1 V (AP Y)<|Ao4 3 V Wh (Pa #[_,_,_] AV6 AU3 Y) ?_;refine Zz (l:=[2])<|Ao5 [true,false] [(3,(_,_))] V rfl (Zw [_,_] Y call222 Y V (M5 hv q hbq9 Ao7)) ?hk_12 Bp ?hl_12
  case hk_12=>
   rintro _ _ ⟨_,⟨sm,hrm,rfl⟩,rfl⟩;refine ⟨Zk (AV),?_⟩;obtain ⟨gm,cm,rfl⟩:=hrm.form;have hcs:F5 sm gm ((Cg q rows).map ivQ):=KW hrm
   have hml2:=Jr q rows;have hcm2:=Ew hrm
   refine Zz (l:=[4])<|Ao5 [true] [(3,(_,_))] V rfl (Zw [_] Y call224 Y V (Mo (.func (.func 226) #[] #[]) V rfl)) ?hk_13 Bp ?hl_13
   case hk_13=>
    rintro _ _ ⟨_,⟨b9,rfl,rfl⟩,rfl⟩;refine ⟨Zk (AV),?_⟩;refine Yw 5 63 V (Zu [_,_,_] Y call221 Y V (YW hcs Ao7 Ao7 b9 226 _ call226 bg)) ?_;rintro _ _ ⟨rfl,rfl⟩;refine Yw 6 127 V (Xw AU3 _) ?_;rintro _ _ ⟨rfl,rfl⟩;refine Ag<|Zx<|AC<|Ab<|Zt<|Cy V Ai0 Y Wh (Ap AV6 AU3 Wn (V)) (by
     have e8:=Uv (fun a b=>decide (b<a)) (Cg q rows) Bw.none;exact ⟨.slice none 0 0,[],by rw [xy hq9 k6];rfl,by rw [xy hq9 k6];rw [show(E8 (fun a b=>decide (b<a)) (Cg q rows)).rows=[] from e8];exact Bf 5 _,rfl⟩)
   exact Ae
  exact Ae
 refine Zq<|Zg<|Zv (CL Y Y)<|Za Y<|Z0<|Zx<|Aw Y (fun k7=>?_) (fun k7=>?_)
 ·
  refine Zq<|Zg<|Zo Wh (AA (cs:=#[_,_,_,_,_,_,_]) AX9 AV8 Y (by(simp;done)) Ap1) ?_;refine Zm Y<|Zm Y<|Zc [_,_,_] Y call227 Y V (Xz hv ho q hbq9 Ao7) ?_;rintro _ _ ⟨_,⟨sj,hrj,rfl⟩,rfl⟩;obtain ⟨gj,cj,rfl⟩:=hrj.form;refine Zv (BL (vs:=[(0,_)]) (cs:=#[_,_,_]) Y (AY (pl:=#[(0,1),(1,1),(2,1)]) AW5 AU6 (fun _=>by kernel_rfl) rfl))<|Xe (BK AU3 Y Y (by(simp [Value.oneCell',Value.cells];done)) Wu Ap1 Ap3 Ao9 (by exact BF _)) ?_;refine Z0<|Zx<|AC<|Ab<|Zt<|Cy rfl Ai0 Y Wh (Ap AV6 AU3 Wn (rfl)) (by exact ⟨.slice gj _ cj,sj,by rw [xx hq9 k7];rfl,by rw [xx hq9 k7];exact hrj,rfl⟩)
 refine AJ<|A9<|Zx<|Zq<|Zg<|Zm Y<|Zc [_] Y call109 Y V (GJ hv Ao7) ?_;rintro _ _ ⟨_,⟨sj,hrj,rfl⟩,rfl⟩;obtain ⟨gj,cj,rfl⟩:=hrj.form;refine Zv (BL (vs:=[(0,_)]) (cs:=#[_,_,_]) Y (AY (pl:=#[(0,1),(1,1),(2,1)]) AW5 AU6 (fun _=>by kernel_rfl) rfl))<|Xe (BK AU3 Y Y (by(simp [Value.oneCell',Value.cells];done)) Wu Ap1 Ap3 Ao9 (by exact BF _)) ?_;refine Z0<|Zx<|AC<|Cy rfl Ai0 Y Wh (Ap AV6 AU3 Wn (rfl)) (by exact ⟨.slice gj _ cj,sj,by rw [yA hq9 k3 k4 k5 k6 k7];rfl,by rw [yA hq9 k3 k4 k5 k6 k7];exact hrj,rfl⟩)
theorem VM(h:r.ok)(c:Int):-1000000000<=Be r c/\Be r c<=1000000000:=by
 obtain ⟨⟨h1,h2,h3⟩,h4,h5⟩:=h;unfold inV at h1 h2 h3;unfold Be;split
 · omega
 · split
   · omega
   · split
     · omega
     · split<;>omega
variable{B:List A8}
theorem oq{A:List A8}(hv:Dh A v rows)(ho:Dh B vo others)(q:QM)(hb:rows.length<=1000000000)(hm:BH q->∀r∈rows,-1000000000<=Be r q.bq/\Be r q.bq<=1000000000):BR Tryz.prog 161 #[.agg #[I4 q.kd,I4 q.tb,I4 q.cl,I4 q.lo,I4 q.hi,I4 q.bq,I4 q.ot],v,vo] [A,B] (fun w H'=>∃rv s,w= .agg #[rv,I4 (I7 q rows others).val,.bool (I7 q rows others).fnd]/\BZ 5 83 rv (I7 q rows others).rows.length (Ac (I7 q rows others).rows) s/\H'=[s,A,B]):=by
 refine GY (jb (hv.mono (fun c hc=>zR B hc)) (ho.mono (fun c hc=>zZ A hc)) q hb hm) Ap0 ?_;rintro r H' ⟨rv,s,rfl,h,rfl⟩;exact ⟨_,⟨rv,s,V,h,V⟩,by simp⟩
theorem gN(v:Value)(p:Int)(rs:List AQ)(s:List A8)(hv:Qa v p rs s)(t c lo hi:Int)(hc:0<=c/\c<=3):BR Tryz.prog 105 #[v,I4 t,I4 c,I4 lo,I4 hi] [s] (fun r H'=>∃so,BZ 5 83 r (DY rs t c.toNat lo hi).length (Ac (DY rs t c.toNat lo hi)) so/\H'=[so,s]):=by
 have h:=X6 v p rs s hv t c.toNat lo hi Ao7;rwa [show((c.toNat:Nat):Int)=c by omega]at h
theorem KC{rs:List AQ}{t:Int}{c:Nat}{lo hi:Int}:(DY rs t c lo hi).length<=rs.length/\∀r∈DY rs t c lo hi,r∈rs:=by
 have h:=EI rs t c lo hi;exact ⟨by rw [h.length_eq];exact AD3 _ _,fun r hr=>(AA2.1 (h.mem_iff.1 hr)).1⟩
def Ja(c:Chg)(x:AQ):Bool:=decide (x.t=c.t)&&decide (x.k=c.k)
def Jz(q:QM)(y x:AQ):Bool:=decide (Be y q.cl<Be x q.cl)||(decide (Be x q.cl=Be y q.cl)&&decide (y.k<x.k))
def QT(pd:AQ->Bool)(rows:List AQ)(y:AQ):List AQ:=rows.take ((rows.findIdx? pd).getD rows.length)++[y]++rows.drop ((rows.findIdx? pd).getD rows.length)
def Dc(q:QM)(c:Chg)(rows:List AQ):List AQ:=match afQ q c with
 |some y=>QT (Jz q y) (rows.filter fun x=>!Ja c x) y
 |none=>rows.filter fun x=>!Ja c x
def G8(lt:Int->Int->Bool)(b a:Bool)(o n:Int)(r:Bw):Bw×Bool:=
 if b&&(!r.fnd||!lt r.val o)then(⟨r.rows,n,r.fnd⟩,(a&&r.fnd)&&!lt r.val n)
 else if a then(⟨r.rows,if !r.fnd||lt n r.val then n else r.val,true⟩,true)else(r,true)
theorem oQ(pd:AQ->Bool)(rows:List AQ)(y:AQ):(QT pd rows y).length=rows.length+1:=by
 unfold QT;simp only [zG,zN,zO,zU];omega
theorem TZ(q:QM)(c:Chg)(rows:List AQ):(Dc q c rows).length<=rows.length+1:=by
 have h:=AD3 (fun x=>!Ja c x) rows;unfold Dc;split
 · rw [oQ];omega
 · omega
theorem M9(lt:Int->Int->Bool)(b a:Bool)(o n:Int)(r:Bw):(G8 lt b a o n r).1.rows=r.rows:=by
 unfold G8;split
 · rfl
 · split<;>rfl
theorem dE{P:Program}{f:FuncId}{args:Array Value}{H:Hp}{Q:Value->Hp->Prop}(h:BR P f args H Q)(F:Hp):BR P f args (H++F) (fun v H'=>∃H1,Q v H1/\H'=H1++F):=fun u R w hs=>
 Calls.mono (h u (F++R) w (by rw [<-zM];exact hs)) fun e w' he=>by
  rcases he with⟨v,H',rfl,h1,h2⟩|⟨ch,H',rfl,h1,h2⟩
  · exact .inl ⟨v,H'++F,rfl,⟨H',h1,rfl⟩,by rw [zM];exact h2⟩
  · exact h1.elim
theorem uI(pd:AQ->Bool)(rows:List AQ):(QV pd rows<0/\(rows.findIdx? pd).getD rows.length=rows.length)\/∃i:Nat,i<=rows.length/\QV pd rows=(i:Int)/\(rows.findIdx? pd).getD rows.length=i:=by
 unfold QV;cases h:rows.findIdx? pd with
 |none=>exact .inl ⟨by simp,rfl⟩
 |some i=>
  obtain ⟨h1,_,_⟩:=AC5.1 h;exact .inr ⟨i,by omega,V,V⟩
theorem iJ(q:QM)(c:Chg)(p1 p2:Option Addr)(o n:Int)(x:AQ)(be:Nat):BJ Tryz.prog 205 #[.agg #[I4 x.t,I4 x.k,I4 x.v.a,I4 x.v.b,I4 x.v.c],I5 be] [[(be,.cells #[I4 q.kd,I4 q.tb,I4 q.cl,I4 q.lo,I4 q.hi,I4 q.bq,I4 q.ot,I4 c.t,I4 c.k,.bool c.had,I4 c.o.a,I4 c.o.b,I4 c.o.c,.bool c.has,I4 c.n.a,I4 c.n.b,I4 c.n.c,.pointer p1,.pointer p2,I4 o,I4 n] 167 (0,0))]] (.bool (Ja c x)):=by
 refine Se func205 ntmps205 [0,1] ?_;intro u R;refine Zq<|Zg<|Ze (Bx #[_,_,_,_,_]) ?_;rintro _ _ ⟨bx,rfl,rfl⟩;refine Za Y<|Z0<|Zx<|Zq<|Zg<|Zh 0 AX4 V rfl AU1 Y<|Zl AU2 Y ?_;refine Zh 7 AU7 V rfl AW4 Y<|Zv (Ar (off:=0) AV4 V rfl AU1 Y)<|Zl AU2 Y ?_;refine Zv (CL Y Y)<|Zm Y<|Ak (t:=10) Y V (fun h1=>?_) (fun h1=>?_)
 ·
  refine Yf 1 AX4 V rfl AU1 Y<|Yl AU2 Y ?_;refine Yf 7 AU7 V rfl AW4 Y<|Yg (Ar (off:=1) AV4 V rfl AU1 Y)<|Yl AU2 Y ?_;refine Yg (CL Y Y)<|Zv (AZ Y Y)<|Za Y<|Z0<|Zn [3] ?_;refine Zx<|AC<|AL V results205 Y (by exact ⟨by simp [Ja,h1],V⟩)
 refine A7 Y V<|A7 Y V<|A7 Y V<|A7 Y V<|A7 Y V<|A7 Y V<|Zv (AU Y Y)<|Za Y<|Z0<|Zn [3] ?_;refine Zx<|AC<|AL V results205 Y (by exact ⟨by simp [Ja,h1],V⟩)
theorem VI{A:List A8}(hv:Dh A v rows)(hn:rows.length<=1000000000)(fid:Nat)(us:List Value)(pd:AQ->Bool)(hcf:∀(args:Array Value) (w:World),(callFunc fid args).run Tryz.prog w= .ok (.enter fid args) w)(hf:∀x:AQ,BJ Tryz.prog fid (.agg #[I4 x.t,I4 x.k,I4 x.v.a,I4 x.v.b,I4 x.v.c]::us).toArray [B] (.bool (pd x))):BR Tryz.prog 204 #[v,.func (.func fid) #[] us.toArray] [A,B] (fun r H'=>∃s,BZ 5 83 r (rows.filter fun x=>!pd x).length (Ac (rows.filter fun x=>!pd x)) s/\H'=[s,A,B]):=by
 obtain ⟨p,cap,rfl,_⟩:=id hv;refine Se func204 ntmps204 [0,1] ?_;intro u R;refine Zq<|Zg<|Za Y<|Z0<|Zx<|Zq<|Zg<|Zm Y<|Zc [_] Y call109 Y V (GJ hv Ao7) ?_;rintro _ _ ⟨_,⟨s1,h1,rfl⟩,rfl⟩;obtain ⟨g1,c1,rfl⟩:=h1.form;refine Zm Y<|Zc [_,_] Y call255 Y V (Ym h1 hn fid us pd hcf hf) ?_;rintro _ _ ⟨_,⟨s2,h2,rfl⟩,rfl⟩;obtain ⟨g2,c2,rfl⟩:=h2.form;refine Za Y<|Z0<|Zx<|AC<|AL V results204 Y (by exact ⟨_,h2,V⟩)
theorem Tq(hrow:BZ 5 83 v rows.length (Ac rows) s)(hn:rows.length<=1000000000)(y:AQ)(fid:Nat)(us:List Value)(pd:AQ->Bool)(hcf:∀(args:Array Value) (w:World),(callFunc fid args).run Tryz.prog w= .ok (.enter fid args) w)(hf:∀x:AQ,BJ Tryz.prog fid (.agg #[I4 x.t,I4 x.k,I4 x.v.a,I4 x.v.b,I4 x.v.c]::us).toArray [B] (.bool (pd x))):BR Tryz.prog 206 #[v,.agg #[I4 y.t,I4 y.k,I4 y.v.a,I4 y.v.b,I4 y.v.c],.func (.func fid) #[] us.toArray] [s,B] (fun r H'=>∃s' s2,BZ 5 83 r (QT pd rows y).length (Ac (QT pd rows y)) s'/\H'=[s',s2,B]):=by
 have hml:=mL;obtain ⟨p,cap,rfl⟩:=hrow.form;have hU:=D7 hrow Ao7
 refine Se func206 ntmps206 [0,1,2] ?_;intro u R;refine Zq<|Zg<|Ze (Bx #[_,_,_,_,_]) ?_;rintro _ _ ⟨bx,rfl,rfl⟩;refine Za Y<|Z0<|Zx<|Zq<|Zg<|Zm Y<|Zm Y<|Xr [_,_] Y call172 Y V (Sb hU fid us pd hcf hf) ?_;obtain ⟨z9,hz9⟩:∃z,z=QV pd rows:=⟨_,rfl⟩;rw [<-hz9];have hcs9:=uI pd rows
 rw [<-hz9]at hcs9;refine Za Y<|Z0<|Zx<|Zb [7,0,4] ?_;refine Ea (e0:=[(7,_)]) (H0:=[]) (fun e H=>∃(i:Nat),(i<=rows.length/\(rows.findIdx? pd).getD rows.length=i)/\e=[(7,I4 (i:Int))]/\H=[]) Wp ?hx_1 ?hy_1
 case hx_1=>
  refine Zq<|Zg<|Zm Y<|Zv (Dq Y Y)<|Z0<|Zx<|Aw Y (fun hlt=>?_) (fun hlt=>?_)
  ·
   refine Zg<|Zm Y<|Zv (Aa AU4 Y)<|Za Y<|Z0<|Zn [7,0,4] ?_;refine Bi (e':=[(7,_)]) (by exact ⟨rows.length,⟨zh _,by rcases hcs9 with⟨_,h⟩|⟨i,h1,h2,h3⟩;exact h;omega⟩,rfl,rfl⟩)
  rcases hcs9 with⟨h9,_⟩|⟨i,h1,h2,h3⟩
  · exact absurd h9 hlt
  subst h2;refine AJ<|Zn [7,0,4] ?_;refine Bi (e':=[(7,_)]) (by exact ⟨i,⟨h1,h3⟩,V,V⟩)
 rintro _ _ ⟨i,⟨hi,hgi⟩,rfl,rfl⟩;refine Zq<|Zg<|Zm Y<|Zm Y<|Zo Wh (Pa #[_,_,_,_,_] AX3 AU5 Y) ?_;refine Ze (Af (vs:=[_]) (cs:=[_,_,_,_,_]) AU4 AU5 AW7 Y V rfl V rfl V) ?_;rintro _ _ ⟨gy,rfl,rfl⟩;refine Zc [_,_,_] Y call256 Y V (Y9 hrow hn i hi y gy) ?_;rintro _ _ ⟨_,⟨s3,s4,h3,rfl⟩,rfl⟩;obtain ⟨g3,c3,rfl⟩:=h3.form;refine Za Y<|Z0<|Zx<|AC<|AL rfl results206 Y (by exact ⟨_,s4,by unfold QT;rw [hgi];exact h3,rfl⟩)
theorem WP(q:QM)(hcl:0<=q.cl/\q.cl<=3)(c:Chg)(p1:Option Addr)(o n:Int)(y:AQ)(b2:Nat):BR Tryz.prog 207 #[.agg #[I4 q.kd,I4 q.tb,I4 q.cl,I4 q.lo,I4 q.hi,I4 q.bq,I4 q.ot,I4 c.t,I4 c.k,.bool c.had,I4 c.o.a,I4 c.o.b,I4 c.o.c,.bool c.has,I4 c.n.a,I4 c.n.b,I4 c.n.c,.pointer p1,I5 b2,I4 o,I4 n]] [[(b2,.cells #[I4 y.t,I4 y.k,I4 y.v.a,I4 y.v.b,I4 y.v.c] 83 (0,0))]] (fun r H'=>∃be bv,r= .func (.func 257) #[] #[I5 be,I5 bv]/\H'=[[(be,.cells #[I4 q.kd,I4 q.tb,I4 q.cl,I4 q.lo,I4 q.hi,I4 q.bq,I4 q.ot,I4 c.t,I4 c.k,.bool c.had,I4 c.o.a,I4 c.o.b,I4 c.o.c,.bool c.has,I4 c.n.a,I4 c.n.b,I4 c.n.c,.pointer p1,I5 b2,I4 o,I4 n] 167 (0,0))],[(bv,.cells #[I4 (Be y q.cl)] 3 (0,0))],[(b2,.cells #[I4 y.t,I4 y.k,I4 y.v.a,I4 y.v.b,I4 y.v.c] 83 (0,0))]]):=by
 refine Se func207 ntmps207 [0] ?_;intro u R;refine Zq<|Zg<|Ze (EX Y (cs:=#[I4 q.kd,I4 q.tb,I4 q.cl,I4 q.lo,I4 q.hi,I4 q.bq,I4 q.ot,I4 c.t,I4 c.k,.bool c.had,I4 c.o.a,I4 c.o.b,I4 c.o.c,.bool c.has,I4 c.n.a,I4 c.n.b,I4 c.n.c,.pointer p1,I5 b2,I4 o,I4 n]) (Fe q c p1 (some ⟨b2,0,none⟩) o n)) ?_;rintro _ _ ⟨be,rfl,rfl⟩;refine Za Y<|Z0<|Zx<|Zq<|Az (n:=10) (0::1::3::7::0::16::48::127::0::511::[]) 896 Ao8 Ao8 V<|An9 0 V (AB (off:=18) AU7 V rfl Aa4 Y)<|Ao0 1 V Ae0 Y ?_;refine An9 2 V (Am Y V)<|Ao4 3 V Wh (AA (cs:=#[_,_,_,_,_]) AX3 AU5 Y (by(simp;done)) Ap1) ?_;refine An9 4 V (AB (off:=0) AU7 V rfl AV8 Y)<|An9 5 V (Ar (off:=2) AU9 V rfl AU1 Y)<|Ao0 6 V AU2 Y ?_;refine Zz (l:=[7,8])<|Ao5 [false,false,false] [] V rfl (Zu [_,_] Y Ah3 Y V (FW y q.cl hcl)) ?hk_1 (fun _ _ h=>h.elim) ?hl_1
 case hk_1=>
  rintro _ _ ⟨rfl,rfl⟩;refine ⟨AV,?_⟩;refine Yw 8 511 V (Al AX6 #[_]) ?_;rintro _ _ ⟨bv,rfl,rfl⟩;refine Yw 9 1023 V (Zs AU1 Y Y V (hi:=by decide)) ?_;rintro _ _ ⟨rfl,rfl⟩;refine Ag<|Zx<|Zq<|Zg<|Zv (Bb (vs:=[]) (us:=[_,_]) Y Y)<|Za Y<|Z0<|Zn [2] ?_;refine Zx<|AC<|AL V results207 Y (by exact ⟨be,bv,V,V⟩)
 refine Ao5 [true,true,true] [(6,(_,_)),(3,(_,_)),(1,(_,_))] V rfl (Al AX6 #[_]) ?hk_5 (fun _ _ h=>h.elim) ?hl_5
 case hk_5=>
  rintro _ _ ⟨bv,rfl,rfl⟩;refine ⟨Zk (Zk (Zk (AV))),?_⟩;refine Yw 7 511 V (Zu [_,_] Y Ah3 Y V (FW y q.cl hcl)) ?_;rintro _ _ ⟨rfl,rfl⟩;refine Yw 9 1023 V (Zs AU1 Y Y V (hi:=by decide)) ?_;rintro _ _ ⟨rfl,rfl⟩;refine Ag<|Zx<|Zq<|Zg<|Zv (Bb (vs:=[]) (us:=[_,_]) Y Y)<|Za Y<|Z0<|Zn [2] ?_;refine Zx<|AC<|AL V results207 Y (by exact ⟨be,bv,V,V⟩)
 exact Ae
theorem kP(q:QM)(hcl:0<=q.cl/\q.cl<=3)(c:Chg)(p1:Option Addr)(o n:Int)(y:AQ)(b2 be bv:Nat)(x:AQ):BJ Tryz.prog 257 #[.agg #[I4 x.t,I4 x.k,I4 x.v.a,I4 x.v.b,I4 x.v.c],I5 be,I5 bv] [[(be,.cells #[I4 q.kd,I4 q.tb,I4 q.cl,I4 q.lo,I4 q.hi,I4 q.bq,I4 q.ot,I4 c.t,I4 c.k,.bool c.had,I4 c.o.a,I4 c.o.b,I4 c.o.c,.bool c.has,I4 c.n.a,I4 c.n.b,I4 c.n.c,.pointer p1,I5 b2,I4 o,I4 n] 167 (0,0))],[(bv,.cells #[I4 (Be y q.cl)] 3 (0,0))],[(b2,.cells #[I4 y.t,I4 y.k,I4 y.v.a,I4 y.v.b,I4 y.v.c] 83 (0,0))]] (.bool (Jz q y x)):=by
 refine Se func257 ntmps257 [0,1,2] ?_;intro u R;refine Zq<|Zg<|Ze (Bx #[_,_,_,_,_]) ?_;rintro _ _ ⟨bx,rfl,rfl⟩;refine Za Y<|Z0<|Zx<|Zq<|Zg<|Zo Wh (AA (cs:=#[_,_,_,_,_]) AX3 AU5 Y (by(simp;done)) Ap1) ?_;refine Zh 0 AU7 V rfl AV8 Y<|Zv (Ar (off:=2) AU9 V rfl AU1 Y)<|Zl AU2 Y ?_;refine Xr [_,_] Y Ah3 Y V (FW x q.cl hcl) ?_;refine Za Y<|Z0<|Zx<|Zq<|Az (n:=19) (0::0::3::7::15::15::63::127::255::511::255::1279::3327::7423::15615::32767::65535::131071::262143::[]) 0 Ao8 Ao8 V<|An9 0 V (AP Y)<|Ao0 1 V AU2 Y ?_;refine An9 2 V (FI Y Y)<|An9 3 V (AP Y)<|EE (t:=14) Y (fun h1=>?_) (fun h1=>?_)
 ·
  rw [Am8 h1];refine Ao1 4 V<|Ao1 5 V<|Ao1 6 V<|Ao1 7 V<|Ao1 8 V<|Ao1 9 V<|Ao1 10 V<|Ao1 11 V<|Ao1 12 V<|Ao1 13 V<|Ao1 14 V<|Ao1 15 V<|Ao1 16 V<|An9 17 V (AZ Y Y)<|An9 18 V (Aq Y)<|Ag<|Zn [4] ?_;refine Zx<|AC<|AL V results257 Y (by exact ⟨by simp [Jz, *],V⟩)
 rw [Am5 h1];refine Ao2 4 V (AP Y)<|Ao3 5 V Wh (BX AU2 Y Ap1) ?_;refine Ao2 6 V (CL Y Y)<|Ao2 7 V (AP Y)<|EE (t:=18) Y (fun h2=>?_) (fun h2=>?_)
 ·
  rw [Am8 h2];refine Ao2 8 V (AB (off:=1) AX4 V rfl AU1 Y)<|Ao3 9 V Wh (BX AU2 Y Ap1) ?_;refine Ao2 10 V (AB (off:=18) AU7 V rfl Aa4 Y)<|Ao3 11 V Wh (BX Ae0 Y Ap1) ?_;refine Ao2 12 V (Am Y V)<|Ao2 13 V (AB (off:=1) AX4 V rfl AU1 Y)<|Ao3 14 V Wh (BX AU2 Y Ap1) ?_;refine Ao2 15 V (FI Y Y)<|Ao2 16 V (AZ Y Y)<|An9 17 V (AU Y Y)<|An9 18 V (Aq Y)<|Ag<|Zn [4] ?_;refine Zx<|AC<|AL V results257 Y (by exact ⟨by simp [Jz, *],V⟩)
 rw [Am5 h2];refine Ao1 8 V<|Ao1 9 V<|Ao1 10 V<|Ao1 11 V<|Ao1 12 V<|Ao1 13 V<|Ao1 14 V<|Ao1 15 V<|Ao2 16 V (AU Y Y)<|An9 17 V (AU Y Y)<|An9 18 V (Aq Y)<|Ag<|Zn [4] ?_;refine Zx<|AC<|AL V results257 Y (by exact ⟨by simp [Jz, *],V⟩)
theorem QJ(q:QM)(hcl:0<=q.cl/\q.cl<=3)(c:Chg)(p1:Option Addr)(o n:Int)(y:AQ)(b2:Nat):BR Tryz.prog 207 #[.agg #[I4 q.kd,I4 q.tb,I4 q.cl,I4 q.lo,I4 q.hi,I4 q.bq,I4 q.ot,I4 c.t,I4 c.k,.bool c.had,I4 c.o.a,I4 c.o.b,I4 c.o.c,.bool c.has,I4 c.n.a,I4 c.n.b,I4 c.n.c,.pointer p1,I5 b2,I4 o,I4 n]] [[(b2,.cells #[I4 y.t,I4 y.k,I4 y.v.a,I4 y.v.b,I4 y.v.c] 83 (0,0))]] (fun r H'=>∃be bv,r= .func (.func 257) #[] ([I5 be,I5 bv]:List Value).toArray/\H'=[[(be,.cells #[I4 q.kd,I4 q.tb,I4 q.cl,I4 q.lo,I4 q.hi,I4 q.bq,I4 q.ot,I4 c.t,I4 c.k,.bool c.had,I4 c.o.a,I4 c.o.b,I4 c.o.c,.bool c.has,I4 c.n.a,I4 c.n.b,I4 c.n.c,.pointer p1,I5 b2,I4 o,I4 n] 167 (0,0))]++[(bv,.cells #[I4 (Be y q.cl)] 3 (0,0))]++[(b2,.cells #[I4 y.t,I4 y.k,I4 y.v.a,I4 y.v.b,I4 y.v.c] 83 (0,0))]]):=by
 refine GY (WP q hcl c p1 o n y b2) V ?_;rintro r H' ⟨be,bv,rfl,rfl⟩;exact ⟨_,⟨be,bv,V,V⟩,by simp⟩
theorem Yx(q:QM)(hcl:0<=q.cl/\q.cl<=3)(c:Chg)(p1:Option Addr)(o n:Int)(y:AQ)(b2 be bv:Nat)(x:AQ):BJ Tryz.prog 257 (.agg #[I4 x.t,I4 x.k,I4 x.v.a,I4 x.v.b,I4 x.v.c]::([I5 be,I5 bv]:List Value)).toArray [[(be,.cells #[I4 q.kd,I4 q.tb,I4 q.cl,I4 q.lo,I4 q.hi,I4 q.bq,I4 q.ot,I4 c.t,I4 c.k,.bool c.had,I4 c.o.a,I4 c.o.b,I4 c.o.c,.bool c.has,I4 c.n.a,I4 c.n.b,I4 c.n.c,.pointer p1,I5 b2,I4 o,I4 n] 167 (0,0))]++[(bv,.cells #[I4 (Be y q.cl)] 3 (0,0))]++[(b2,.cells #[I4 y.t,I4 y.k,I4 y.v.a,I4 y.v.b,I4 y.v.c] 83 (0,0))]] (.bool (Jz q y x)):=by
 refine GY (kP q hcl c p1 o n y b2 be bv x) V ?_;rintro r H' ⟨rfl,rfl⟩;exact ⟨_,⟨V,V⟩,by simp⟩
set_option maxHeartbeats 1000000 in
theorem aQ(q:QM)(c:Chg)(p1 p2:Option Addr)(o n:Int)(hcl:0<=q.cl/\q.cl<=3){r:Bw}{rv:Value}{sr:List A8}(hr:BZ 5 83 rv r.rows.length (Ac r.rows) sr)(hn:r.rows.length<=100000000){s2:List A8}(h2:II p2 (afQ q c) s2):BR Tryz.prog 127 #[.agg #[I4 q.kd,I4 q.tb,I4 q.cl,I4 q.lo,I4 q.hi,I4 q.bq,I4 q.ot,I4 c.t,I4 c.k,.bool c.had,I4 c.o.a,I4 c.o.b,I4 c.o.c,.bool c.has,I4 c.n.a,I4 c.n.b,I4 c.n.c,.pointer p1,.pointer p2,I4 o,I4 n],.agg #[rv,I4 r.val,.bool r.fnd]] [sr,s2] (fun w H'=>∃rv' s',w= .tuple #[.agg #[rv',I4 r.val,.bool r.fnd],.bool true]/\BZ 5 83 rv' (Dc q c r.rows).length (Ac (Dc q c r.rows)) s'/\H'=[s']):=by
 have hml:=mL;obtain ⟨pv,cv,rfl⟩:=hr.form;have hU:=D7 hr Ao7
 have hfl:(r.rows.filter fun x=>!Ja c x).length<=r.rows.length:=AD3 _ _;refine Se func127 ntmps127 [0,1] ?_;intro u R;refine Zq<|Zg<|Ze (EX Y (cs:=#[I4 q.kd,I4 q.tb,I4 q.cl,I4 q.lo,I4 q.hi,I4 q.bq,I4 q.ot,I4 c.t,I4 c.k,.bool c.had,I4 c.o.a,I4 c.o.b,I4 c.o.c,.bool c.has,I4 c.n.a,I4 c.n.b,I4 c.n.c,.pointer p1,.pointer p2,I4 o,I4 n]) (Fe q c p1 p2 o n)) ?_;rintro _ _ ⟨be,rfl,rfl⟩;refine Ze (Bx #[.slice pv r.rows.length cv,I4 r.val,.bool r.fnd]) ?_;rintro _ _ ⟨br,rfl,rfl⟩;refine Ze (Al AW5 #[_,_,_]) ?_;rintro _ _ ⟨b3,rfl,rfl⟩;refine Za Y<|Z0<|Zx<|Zq<|Zg<|Zh 0 AU6 V rfl AW8 Y<|Zl Ab2 Y ?_;refine Zv (Bb (vs:=[]) (us:=[_]) Y Y)<|Zc [_,_] Y call204 Y V (VI (B:=[(be,.cells #[I4 q.kd,I4 q.tb,I4 q.cl,I4 q.lo,I4 q.hi,I4 q.bq,I4 q.ot,I4 c.t,I4 c.k,.bool c.had,I4 c.o.a,I4 c.o.b,I4 c.o.c,.bool c.has,I4 c.n.a,I4 c.n.b,I4 c.n.c,.pointer p1,.pointer p2,I4 o,I4 n] 167 (0,0))]) hU Ao7 205 [I5 be] (Ja c) call205 (fun x=>iJ q c p1 p2 o n x be)) ?_;rintro _ _ ⟨_,⟨s3,h3,rfl⟩,rfl⟩;obtain ⟨g3,c3,rfl⟩:=h3.form;refine Zh 0 AU6 V rfl AW8 Y<|Xe (Zs AW8 Y Y V (hi:=by(simp;done))) ?_;refine Z0<|Zx<|Zb [2,3,4] ?_;refine Ea (e0:=[(2,_)]) (H0:=[[(br,.cells #[.slice g3 (r.rows.filter fun x=>!Ja c x).length c3,I4 r.val,.bool r.fnd] 53 (0,0))],s3,s2]) (fun e H=>∃(w:Value) (s4:List A8),(BZ 5 83 w (Dc q c r.rows).length (Ac (Dc q c r.rows)) s4)/\e=[]/\H=[[(br,.cells #[w,I4 r.val,.bool r.fnd] 53 (0,0))],s4]) Wp ?hx_1 ?hy_1
 case hx_1=>
  refine Zq<|Zg<|Zh 18 AU7 V rfl Aa4 Y<|Zl Ae0 Y ?_;refine Zv (ET Aa2 Y Y)<|Z0<|Zx<|AR Y (fun hp=>?_) (fun hp=>?_)
  ·
   obtain ⟨y,hy⟩:∃y,afQ q c=some y:=AK2.1 (by rw [<-h2.some_];exact hp);rw [hy]at h2;obtain ⟨b2,rfl,rfl⟩:=h2;refine Az (n:=11) (0::1::0::4::12::28::0::64::255::511::1023::[]) 1408 Ao8 Ao8 V<|An9 0 V (AB (off:=0) AU6 V rfl AW8 Y)<|Ao0 1 V Ab2 Y ?_;refine An9 2 V (AB (off:=18) AU7 V rfl Aa4 Y)<|Ao0 3 V Ae0 Y ?_;refine An9 4 V (Am Y V)<|Cw (b:=b2) (x:= .cells #[I4 y.t,I4 y.k,I4 y.v.a,I4 y.v.b,I4 y.v.c] 83 (0,0)) (D':=63) 5 V rfl V Ap0 (Pa #[I4 y.t,I4 y.k,I4 y.v.a,I4 y.v.b,I4 y.v.c] AX3 AU5 Y) ?_;refine Ao4 6 V Wh (AA Ak0 Af7 Y (by(simp;done)) (by exact BD V)) ?_;refine Zz (l:=[7])<|Ao5 [false,true,true,true] [(5,(_,_)),(3,(_,_)),(1,(_,_))] V rfl (Zw [_] Y call207 Y V (QJ q hcl c p1 o n y b2)) ?hk_2 Bp ?hl_2
   case hk_2=>
    rintro _ _ ⟨_,⟨b8,b9,rfl,rfl⟩,rfl⟩;refine ⟨Ez (by simp [*]) (Zk (Zk (AV))),?_⟩;refine Zz (l:=[8])<|Ao5 [false,false,false] [] V rfl (Zw [_,_,_] Y call206 Y V (Tq h3 Ao7 y 257 [I5 b8,I5 b9] (Jz q y) call257 (fun x=>Yx q hcl c p1 o n y b2 b8 b9 x))) ?hk_3 Bp ?hl_3
    case hk_3=>
     rintro _ _ ⟨_,⟨s5,s6,h5,rfl⟩,rfl⟩;refine ⟨AV,?_⟩;obtain ⟨g5,c5,rfl⟩:=h5.form;refine An9 9 V (AB (off:=0) AU6 V rfl AW8 Y)<|Zz (l:=[10])<|Ao5 [] [] V rfl (Zs AW8 Y Y V (hi:=by(simp;done))) ?hk_4 (fun _ _ h=>h.elim) ?hl_4
     case hk_4=>
      rintro _ _ ⟨rfl,rfl⟩;refine ⟨AV,?_⟩;refine Ag<|Zn [3,4] ?_;refine Bi (e':=[]) (by exact ⟨_,s5,by unfold Dc;rw [hy];exact h5,rfl,rfl⟩)
     exact Ae
    exact Ae
   exact Ae
  have hy:afQ q c=none:=by have h9:=h2.some_;rw [hp]at h9;exact AQ7.1 (by rw [<-h9];decide)
  refine AJ<|Zn [3,4] ?_;refine Bi (e':=[]) (by exact ⟨_,s3,by unfold Dc;rw [hy];exact h3,rfl,rfl⟩)
 rintro _ _ ⟨w,s4,h4,rfl,rfl⟩;obtain ⟨p4,c4,rfl⟩:=h4.form;refine Zq<|Zg<|Zo Wh (AA (cs:=#[_,_,_]) AV6 AU3 Y (by(simp;done)) (by exact BD V)) ?_;refine Xe (BK AU3 Y Y Ap9 Wu (by exact Dr rfl) Ap3 Ao9 (by exact BF _)) ?_;refine Za Y<|Z0<|Zx<|AC<|Bu V results127 Y Wh (Ap AV6 AU3 Wn (V)) Y (by exact ⟨_,s4,V,h4,V⟩)
theorem XV(q:QM)(c:Chg)(p1 p2:Option Addr)(o n:Int){r:Bw}(pv:Option Addr)(kv cv:Nat)(hv:-4000000000000000000<=r.val/\r.val<=4000000000000000000):BJ Tryz.prog 129 #[.agg #[I4 q.kd,I4 q.tb,I4 q.cl,I4 q.lo,I4 q.hi,I4 q.bq,I4 q.ot,I4 c.t,I4 c.k,.bool c.had,I4 c.o.a,I4 c.o.b,I4 c.o.c,.bool c.has,I4 c.n.a,I4 c.n.b,I4 c.n.c,.pointer p1,.pointer p2,I4 o,I4 n],.agg #[.slice pv kv cv,I4 r.val,.bool r.fnd]] [] (.tuple #[.agg #[.slice pv kv cv,I4 (if p2.isSome then r.val+1 else r.val -1),.bool r.fnd],.bool true]):=by
 refine Se func129 ntmps129 [0,1] ?_;intro u R;refine Zq<|Zg<|Ze (EX Y (cs:=#[I4 q.kd,I4 q.tb,I4 q.cl,I4 q.lo,I4 q.hi,I4 q.bq,I4 q.ot,I4 c.t,I4 c.k,.bool c.had,I4 c.o.a,I4 c.o.b,I4 c.o.c,.bool c.has,I4 c.n.a,I4 c.n.b,I4 c.n.c,.pointer p1,.pointer p2,I4 o,I4 n]) (Fe q c p1 p2 o n)) ?_;rintro _ _ ⟨be,rfl,rfl⟩;refine Ze (Bx #[.slice pv kv cv,I4 r.val,.bool r.fnd]) ?_;rintro _ _ ⟨br,rfl,rfl⟩;refine Ze (Al AW5 #[_,_,_]) ?_;rintro _ _ ⟨b3,rfl,rfl⟩;refine Za Y<|Z0<|Zx<|Zq<|Zq<|Zg<|Zh 18 AU7 V rfl Aa4 Y<|Zl Ae0 Y ?_;refine Zv (ET Aa2 Y Y)<|Z0<|Zx<|AR Y (fun hp=>?_) (fun hp=>?_)
 ·
  refine Zg<|Zh 1 AU6 V rfl AU1 Y<|Zl AU2 Y ?_;refine Yi Y Y<|Zh 1 AU6 V rfl AU1 Y<|Xe (Zs AU1 Y Y V (hi:=by(simp;done))) ?_;refine Z0<|Zx<|Zq<|Zg<|Zo Wh (AA (cs:=#[_,_,_]) AV6 AU3 Y (by(simp;done)) Ap1) ?_;refine Xe (Xw AU3 _) ?_;refine Za Y<|Z0<|Zn [4,5] ?_;refine Zx<|AC<|Bu rfl results129 Y Wh (Ap AV6 AU3 Wn (rfl)) Y (by exact ⟨by rw [hp];rfl,rfl⟩)
 refine Zg<|Zh 1 AU6 V rfl AU1 Y<|Zl AU2 Y ?_
 (refine Bq (Hz Y Y (IntWalk.i64_in _ ?_)) ?_;(focus (omega)))
 refine Zh 1 AU6 V rfl AU1 Y<|Xe (Zs AU1 Y Y V (hi:=by(simp;done))) ?_;refine Z0<|Zx<|Zq<|Zg<|Zo Wh (AA (cs:=#[_,_,_]) AV6 AU3 Y (by(simp;done)) Ap1) ?_;refine Xe (Xw AU3 _) ?_;refine Za Y<|Z0<|Zn [4,5] ?_;refine Zx<|AC<|Bu rfl results129 Y Wh (Ap AV6 AU3 Wn (rfl)) Y (by exact ⟨by rw [hp];rfl,rfl⟩)
theorem iF(q:QM)(c:Chg)(p1 p2:Option Addr)(o n:Int){r:Bw}(pv:Option Addr)(kv cv:Nat)(hv:-4000000000000000000<=r.val/\r.val<=4000000000000000000)(hm:(-1000000000<=o/\o<=1000000000)/\-1000000000<=n/\n<=1000000000):BJ Tryz.prog 131 #[.agg #[I4 q.kd,I4 q.tb,I4 q.cl,I4 q.lo,I4 q.hi,I4 q.bq,I4 q.ot,I4 c.t,I4 c.k,.bool c.had,I4 c.o.a,I4 c.o.b,I4 c.o.c,.bool c.has,I4 c.n.a,I4 c.n.b,I4 c.n.c,.pointer p1,.pointer p2,I4 o,I4 n],.agg #[.slice pv kv cv,I4 r.val,.bool r.fnd]] [] (.tuple #[.agg #[.slice pv kv cv,I4 (r.val+(n -o)),.bool r.fnd],.bool true]):=by
 refine Se func131 ntmps131 [0,1] ?_;intro u R;refine Zq<|Zg<|Ze (EX Y (cs:=#[I4 q.kd,I4 q.tb,I4 q.cl,I4 q.lo,I4 q.hi,I4 q.bq,I4 q.ot,I4 c.t,I4 c.k,.bool c.had,I4 c.o.a,I4 c.o.b,I4 c.o.c,.bool c.has,I4 c.n.a,I4 c.n.b,I4 c.n.c,.pointer p1,.pointer p2,I4 o,I4 n]) (Fe q c p1 p2 o n)) ?_;rintro _ _ ⟨be,rfl,rfl⟩;refine Ze (Bx #[.slice pv kv cv,I4 r.val,.bool r.fnd]) ?_;rintro _ _ ⟨br,rfl,rfl⟩;refine Ze (Al AW5 #[_,_,_]) ?_;rintro _ _ ⟨b3,rfl,rfl⟩;refine Za Y<|Z0<|Zx<|Zq<|Zg<|Zh 1 AU6 V rfl AU1 Y<|Zl AU2 Y ?_;refine Zh 20 AU7 V rfl AU1 Y<|Zl AU2 Y ?_;refine Zh 19 AU7 V rfl AU1 Y<|Zl AU2 Y ?_
 (refine Bq (Hz Y Y (IntWalk.i64_in _ ?_)) ?_;(focus (omega)))
 refine Yi Y Y<|Zh 1 AU6 V rfl AU1 Y<|Xe (Zs AU1 Y Y V (hi:=by(simp;done))) ?_;refine Z0<|Zn [3,4] ?_;refine Zx<|Zq<|Zg<|Zo Wh (AA (cs:=#[_,_,_]) AV6 AU3 Y (by(simp;done)) Ap1) ?_;refine Xe (Xw AU3 _) ?_;refine Za Y<|Z0<|Zx<|AC<|Bu V results131 Y Wh (Ap AV6 AU3 Wn (V)) Y (by exact ⟨V,V⟩)
end Go.Proofs.YteaiajghbkenoaaGreatDoor
